/- What the plain functions of the program and of the reference answer: laws of plain data. -/
import Derived.Test.YtpdcljonclhhpaaGreatXDoa
namespace Go.Proofs.YtpdcljonclhhpaaGreat.Ev
theorem E1j{a b:List TUp}(ha:∀ u∈a,Byt u.2.2.1)(hb:∀ u∈b,Byt u.2.2.1)(h:A0V a b=true):a=b:=by
  simp only [A0V,Bool.and_eq_true,decide_eq_true_eq,List.all_eq_true,List.mem_range] at h
  refine List.ext_getElem h.1 fun i h1 h3=>?_
  have h4:=h.2 i h1
  rw [C9 (k:=kUp) (xs:=a) h1,C9 (k:=kUp) (xs:=b) h3] at h4
  exact E5Z (ha _ (List.getElem_mem h1)) (hb _ (List.getElem_mem h3)) h4
def wrote(st:A8)(r:H4)(us:List TUp):A8:=((st.1.1.set st.2.2.1.toNat (V4 r),st.1.2),st.2.1,st.2.2.1+1,us)
theorem B3j(st:A8)(a b kind:Int)(id:ByteArray)(n:Int)(data:List Int)(hU:Ups st.2.2.2)(hr:O9 (st.2.1,st.2.2.1,kind,id,n,data)=true)(hb:Byt data)(h0:0≤st.2.2.1)(h1:st.2.2.1<(st.1.1.length:Int))(hl:st.1.1.length≤1048576)
    (us:List TUp) (hf:N4 st.2.2.2 (st.2.1,st.2.2.1,kind,id,n,data)=some us):F3 st (a,b,kind,id,n,data)=some (wrote st (st.2.1,st.2.2.1,kind,id,n,data) us,()):=by
  have hbd:=Z7 hr
  simp only at hbd
  simp only [F3,A4L]
  rw [C4Y (st.2.1,st.2.2.1,kind,id,n,data) (by simp only;omega) (by simp only;omega) hb,A0 h0,A0 h1]
  simp only [A3,cond_true]
  obtain ⟨x,hx,hx2⟩:=D7v st.2.2.2 (st.2.1,st.2.2.1,kind,id,n,data) hU (by simp only;omega)
  have hI:B48 st.2.2.2 (st.2.1,st.2.2.1,kind,id,n,data)=(us,true,()):=by unfold B48;rw [hf]
  rw [hI] at hx hx2
  rw [hx,hx2 rfl,w64 (by omega) (by omega)]
  rfl
theorem B3k(st:A8)(kind:Int)(id:ByteArray)(n:Int)(data:List Int)(hU:Ups st.2.2.2)(hr:O9 (st.2.1,st.2.2.1,kind,id,n,data)=true)(hb:Byt data)(h0:0≤st.2.2.1)(h1:st.2.2.1<(st.1.1.length:Int))(hl:st.1.1.length≤1048576)
    (us:List TUp) (hf:N4 st.2.2.2 (st.2.1,st.2.2.1,kind,id,n,data)=some us):C8 st kind id n data=some (wrote st (st.2.1,st.2.2.1,kind,id,n,data) us,()):=by
  have hbd:=Z7 hr
  simp only at hbd
  simp only [C8,A0j]
  rw [C4Z (st.2.1,st.2.2.1,kind,id,n,data) (by simp only [maxLen];omega) hb,if_pos hr,A0 h0,A0 h1]
  simp only [A3,cond_true]
  have hI:B48 st.2.2.2 (st.2.1,st.2.2.1,kind,id,n,data)=(us,true,()):=by unfold B48;rw [hf]
  rw [D40 st.2.2.2 (st.2.1,st.2.2.1,kind,id,n,data) hU (by simp only;omega),hI,w64 (by omega) (by omega)]
  rfl
theorem D83{r:H4}(h:O9 r=true):(V4 r).size≤1000:=by
  have hb:=Z7 h
  unfold V4
  rw [A5c,List.length_append,B60,J4]
  omega
theorem E1k{st:A8}(h:A2T st.1){r:H4}(hr:O9 r=true)(us:List TUp):A2T (wrote st r us).1:=⟨C1F h.1 _ (by have:=D83 hr;omega),h.2⟩
theorem A88(us:List TUp)(id:ByteArray)(h:us.length≤maxLen):G1 us id=some (if I1 us id=true then (B5 us id:Int) else -1):=by
  simp only [G1,D3z us id h,A3]
  cases I1 us id<;>rfl
theorem C1J(us:List TUp)(id:ByteArray)(h:Ups us):O2 us id=some (if I1 us id=true then (B5 us id:Int) else -1,()):=by
  have hl:=h.2.1
  rw [D7p us id (by simp only [maxLen];omega)]
  cases hh:I1 us id with
  | true=>
    obtain ⟨hlt,_⟩:=K9.1 hh
    rw [C8j h.1 hh,if_pos hlt,if_pos rfl]
  | false=>rw [C8k h.1 hh,if_neg (Nat.lt_irrefl _),if_neg (by simp)]
theorem D84{id:ByteArray}(h:idB id=true):id.size≤8:=by
  simp only [idB,Bool.and_eq_true,decide_eq_true_eq] at h
  omega
theorem B7T(st:A8)(h0:0≤st.2.2.1)(h1:st.2.2.1≤(st.1.1.length:Int))(hl:st.1.1.length≤1048576):K4 st=some ((st.1.1.length:Int)-st.2.2.1,st,()):=by
  simp only [K4,A8V]
  rw [w64 (by omega) (by omega)]
theorem B7U(st:A8)(h0:0≤st.2.2.1)(h1:st.2.2.1≤(st.1.1.length:Int))(hl:st.1.1.length≤1048576):Q8 st=some ((st.1.1.length:Int)-st.2.2.1,()):=by
  simp only [Q8,B5M]
  rw [w64 (by omega) (by omega)]
theorem bO{α β:Type}(x:α)(f:α→Option β):A3 (some x) f=f x:=rfl
theorem E5a{us:List TUp}{id:ByteArray}(hh:I1 us id=true)(u:TUp)(hu:u.1=(rd kUp us (B5 us id:Int)).1):I1 (us.set (B5 us id) u) id=true∧B5 (us.set (B5 us id) u) id=B5 us id∧rd kUp (us.set (B5 us id) u) (B5 us id:Int)=u:=by
  obtain ⟨hlt,hid⟩:=K9.1 hh
  rw [C9 (k:=kUp) (xs:=us) hlt] at hu
  have hk:∀ q (hq:q<us.length),((us.set (B5 us id) u)[q]'(by simpa using hq)).1=us[q].1:=fun q hq=>by
    rw [List.getElem_set]
    split
    · rename_i e;subst e;exact hu
    · rfl
  have hrd:rd kUp (us.set (B5 us id) u) (B5 us id:Int)=u:=C8o (k:=kUp) hlt u
  have e1:B5 (us.set (B5 us id) u) id=B5 us id:=by
    refine B0E _ (us.set (B5 us id) u).length _ (by simp;omega) (fun j hj=>?_) (fun _=>?_)
    · rw [C9 (k:=kUp) (xs:=us.set (B5 us id) u) (by simp;omega),hk j (by omega)]
      exact B62 hj
    · rw [hrd,hu]
      exact C1C hlt
  refine ⟨?_,e1,hrd⟩
  unfold I1
  rw [e1,hrd,hu,hid]
  simp
  omega
theorem E4M{l:List ByteArray}{s:ByteArray}(hs:s∈l)(hk:(F7 s).2.1=true):(F7 s).1.1≤A4l l:=by
  have h:=C3V (F7 s).1.1 l (-1)
  by_cases hx:(F7 s).1.1≤A4l l
  · exact hx
  · exfalso
    have h1:decide (l.foldl A4k (-1)<(F7 s).1.1)=true:=decide_eq_true (by have:A4l l=l.foldl A4k (-1):=rfl;omega)
    rw [h1] at h
    have h2:=(Bool.and_eq_true _ _▸h.symm:_∧_).2
    have h3:=List.all_eq_true.1 h2 s hs
    simp only [D43,hk,Bool.true_and] at h3
    rw [A0 (by omega)] at h3
    cases h3
def A55(d:D5):Bool:=decide (d.1.length=d.2.length∧d.1.length≤200)&&((List.range d.1.length).all fun i=>!decide (((rd .str d.1 (i:Int)).size:Int)>64)&&!decide (((rd .str d.2 (i:Int)).size:Int)>64))
theorem A6z(d:D5):R7 d=some (A55 d,()):=by
  simp only [R7,B36,A55]
  by_cases h1:(d.1.length:Int)=(d.2.length:Int)
  · rw [A0 h1]
    by_cases h2:(d.1.length:Int)>200
    · rw [A0 h2,A4 (show ¬ (d.1.length=d.2.length∧d.1.length≤200) by omega)]
      rfl
    · rw [A4 h2,A0 (show d.1.length=d.2.length∧d.1.length≤200 by omega)]
      simp only [Bool.not_true,cond_false,C2,Bool.true_and]
      refine C4X (A0H d) d.1.length (by simp only [maxLen];omega) (fun i=>!decide (((rd .str d.1 (i:Int)).size:Int)>64)&&!decide (((rd .str d.2 (i:Int)).size:Int)>64)) (fun i hi=>?_) (by simp [A0H])
      have g1:((i:Int)<(d.1.length:Int)):=by omega
      have g2:(0:Int)≤(i:Int):=by omega
      have g3:((i:Int)<(d.2.length:Int)):=by omega
      simp only [A0H,A0 g1,A0 g2,A0 g3,cond_true]
      cases decide (((rd .str d.1 (i:Int)).size:Int)>64)<;>cases decide (((rd .str d.2 (i:Int)).size:Int)>64)<;>rfl
  · rw [A4 h1,A4 (show ¬ (d.1.length=d.2.length∧d.1.length≤200) by omega)]
    rfl
theorem E5b{d:D5}(h:A55 d=true):A55 (d.1,d.1)=true:=by
  simp only [A55,Bool.and_eq_true] at h ⊢
  refine ⟨decide_eq_true ⟨trivial,(of_decide_eq_true h.1).2⟩,List.all_eq_true.2 fun i hi=>?_⟩
  have:=List.all_eq_true.1 h.2 i hi
  simp only [Bool.and_eq_true] at this ⊢
  exact ⟨this.1,this.1⟩
theorem B83(us:List TUp):A0V us us=true:=by
  simp only [A0V,Bool.and_eq_true]
  refine ⟨decide_eq_true trivial,List.all_eq_true.2 fun i hi=>?_⟩
  simp [A6P]
def E4N(us:List TUp)(id:ByteArray)(ch:List Int):List TUp:=
  us.set (B5 us id) ((rd kUp us (B5 us id:Int)).1,(rd kUp us (B5 us id:Int)).2.1,(rd kUp us (B5 us id:Int)).2.2.1++ch,(rd kUp us (B5 us id:Int)).2.2.2)
def E81(st:A8)(id:ByteArray)(n:Int)(ch:List Int):A8:=wrote st (st.2.1,st.2.2.1,2,id,n,ch) (E4N st.2.2.2 id ch)
def putAt(st:A8)(id:ByteArray)(off:Int)(dat:List Int):Nat→A8
  | 0=>st
  | j+1=>E81 (putAt st id off dat j) id (off+((j*24:Nat):Int)) (N5 24 dat j)
def nPc(dat:List Int):Nat:=(dat.length+24-1) / 24
structure E1l (st:A8) (id:ByteArray) (off:Int) (dat:List Int):Prop where
  idok:idB id=true
  ep:0≤st.2.1∧st.2.1≤10000
  nx:0≤st.2.2.1∧st.2.2.1+(nPc dat:Int)≤(st.1.1.length:Int)
  len:st.1.1.length≤200
  dk:A2T st.1
  up:Ups st.2.2.2
  has:I1 st.2.2.2 id=true
  nd:(rd kUp st.2.2.2 (B5 st.2.2.2 id:Int)).2.2.2=false
  at':off=(List.length (rd kUp st.2.2.2 (B5 st.2.2.2 id:Int)).2.2.1:Int)
  fits:off+(dat.length:Int)≤(rd kUp st.2.2.2 (B5 st.2.2.2 id:Int)).2.1
  byt:Byt dat
  lo:1≤dat.length
structure E9Z (st:A8) (id:ByteArray) (off:Int) (dat:List Int) (j:Nat) (s:A8):Prop where
  ep:s.2.1=st.2.1
  nx:s.2.2.1=st.2.2.1+(j:Int)
  len:s.1.1.length=st.1.1.length
  dk:A2T s.1
  up:Ups s.2.2.2
  has:I1 s.2.2.2 id=true
  ix:B5 s.2.2.2 id=B5 st.2.2.2 id
  val:rd kUp s.2.2.2 (B5 s.2.2.2 id:Int)=((rd kUp st.2.2.2 (B5 st.2.2.2 id:Int)).1,(rd kUp st.2.2.2 (B5 st.2.2.2 id:Int)).2.1,(rd kUp st.2.2.2 (B5 st.2.2.2 id:Int)).2.2.1++dat.take (j*24),false)
theorem C0P(dat:List Int)(j:Nat)(h:j*24<dat.length):1≤(N5 24 dat j).length∧(N5 24 dat j).length≤24∧(N5 24 dat j).length=min (j*24+24) dat.length-j*24:=by
  have e:(N5 24 dat j).length=min (j*24+24) dat.length-j*24:=by unfold N5;rw [List.length_drop,List.length_take]
  rw [e]
  refine ⟨by omega,by omega,rfl⟩
theorem D85(dat:List Int)(j:Nat):dat.take (j*24)++N5 24 dat j=dat.take ((j+1)*24):=by
  have h:=List.take_append_drop (j*24) (dat.take (j*24+24))
  rw [List.take_take,Nat.min_eq_left (by omega)] at h
  rw [show (j+1)*24=j*24+24 by omega]
  exact h
theorem B65{dat:List Int}{j:Nat}:j<nPc dat↔j*24<dat.length:=by
  unfold nPc
  omega
theorem C1K{st:A8}{id:ByteArray}{off:Int}{dat:List Int}(hc:E1l st id off dat){j:Nat}{s:A8}(h:E9Z st id off dat j s)(hj:j<nPc dat) :
    O9 (s.2.1,s.2.2.1,2,id,off+((j*24:Nat):Int),N5 24 dat j)=true∧N4 s.2.2.2 (s.2.1,s.2.2.1,2,id,off+((j*24:Nat):Int),N5 24 dat j)=some (E4N s.2.2.2 id (N5 24 dat j))∧
      E9Z st id off dat (j+1) (E81 s id (off+((j*24:Nat):Int)) (N5 24 dat j)):=by
  obtain ⟨p1,p2,p3⟩:=C0P dat j (B65.1 hj)
  have hj2:=B65.1 hj
  have hlen0:(List.length (dat.take (j*24)):Int)=((j*24:Nat):Int):=by rw [List.length_take];omega
  obtain ⟨hlt,_⟩:=K9.1 hc.has
  have hu:=hc.up.2.2 _ (List.getElem_mem hlt)
  rw [← C9 (k:=kUp) hlt] at hu
  have hu1:=hu.1
  have hu2:=hu.2.1
  have hat:=hc.at'
  have hft:=hc.fits
  have hn1:=hc.nx.1
  have hn2:=hc.nx.2
  have hl:=hc.len
  have hnx:=h.nx
  have hbp:Byt (N5 24 dat j):=B1q (A6u hc.byt _) _
  have hr:O9 (s.2.1,s.2.2.1,2,id,off+((j*24:Nat):Int),N5 24 dat j)=true:=by
    simp only [O9,hc.idok,h.ep]
    rw [A0 hc.ep,A0 (show 0≤s.2.2.1∧s.2.2.1≤199 by omega),if_neg (by omega),if_pos trivial,A0 (show 0≤off+((j*24:Nat):Int)∧off+((j*24:Nat):Int)≤1000000000 by omega),A0 (show 1≤(List.length (N5 24 dat j):Int)∧(List.length (N5 24 dat j):Int)≤24 by omega)]
    rfl
  have hf:N4 s.2.2.2 (s.2.1,s.2.2.1,2,id,off+((j*24:Nat):Int),N5 24 dat j)=some (E4N s.2.2.2 id (N5 24 dat j)):=by
    have e1:(List.length (rd kUp s.2.2.2 (B5 s.2.2.2 id:Int)).2.2.1:Int)=off+((j*24:Nat):Int):=by
      rw [h.val];simp only [List.length_append];omega
    have e2:(rd kUp s.2.2.2 (B5 s.2.2.2 id:Int)).2.2.2=false:=by rw [h.val]
    have e3:@Eq Int (rd kUp s.2.2.2 (B5 s.2.2.2 id:Int)).2.1 (rd kUp st.2.2.2 (B5 st.2.2.2 id:Int)).2.1:=by rw [h.val]
    simp only [N4,h.has,e2,E4N]
    rw [if_neg (by omega),if_neg (by simp),if_pos trivial,if_neg (fun hx=>by
      rcases hx with hx | hx | hx
      · cases hx
      · exact hx e1.symm
      · have hx2:(List.length (rd kUp s.2.2.2 (B5 s.2.2.2 id:Int)).2.2.1:Int)+(List.length (N5 24 dat j):Int)>(rd kUp st.2.2.2 (B5 st.2.2.2 id:Int)).2.1:=by rw [← e3];exact hx
        omega)]
  have hus:=B63 h.up ⟨hr,hbp⟩ hf
  obtain ⟨k1,k2,k3⟩:=E5a h.has ((rd kUp s.2.2.2 (B5 s.2.2.2 id:Int)).1,(rd kUp s.2.2.2 (B5 s.2.2.2 id:Int)).2.1,(rd kUp s.2.2.2 (B5 s.2.2.2 id:Int)).2.2.1++N5 24 dat j,(rd kUp s.2.2.2 (B5 s.2.2.2 id:Int)).2.2.2) rfl
  refine ⟨hr,hf,h.ep,?_,?_,E1k h.dk hr _,hus,k1,k2.trans h.ix,?_⟩
  · show s.2.2.1+1=st.2.2.1+((j+1:Nat):Int)
    omega
  · show (s.1.1.set _ _).length=_
    rw [List.length_set];exact h.len
  · show rd kUp (s.2.2.2.set (B5 s.2.2.2 id) _) ((B5 (s.2.2.2.set (B5 s.2.2.2 id) _) id:Nat):Int)=_
    rw [k2,k3,h.val]
    simp only [List.append_assoc,D85]
theorem F0b{st:A8}{id:ByteArray}{off:Int}{dat:List Int}(hc:E1l st id off dat):E9Z st id off dat 0 st:=
  ⟨rfl,by simp,rfl,hc.dk,hc.up,hc.has,rfl,by
    have e2:(rd kUp st.2.2.2 (B5 st.2.2.2 id:Int)).2.2.2=false:=hc.nd
    rw [Nat.zero_mul,List.take_zero,List.append_nil,← e2]⟩
theorem B7V{st:A8}{id:ByteArray}{off:Int}{dat:List Int}(hc:E1l st id off dat):∀ j,j≤nPc dat→E9Z st id off dat j (putAt st id off dat j)
  | 0,_=>F0b hc
  | j+1,hj=>(C1K hc (B7V hc j (by omega)) (by omega)).2.2
theorem C8x{st:A8}{id:ByteArray}{off:Int}{dat:List Int}(hc:E1l st id off dat):∀ (k j:Nat),j+k=nPc dat→∀ o:Int,(j<nPc dat→o=off+((j*24:Nat):Int))→
    ∃ o',B7o (A0k C8 id) ((pieces 24 dat).drop j) (o,(putAt st id off dat j).2.1,(putAt st id off dat j).2.2.1,(putAt st id off dat j).1.1,(putAt st id off dat j).1.2,(putAt st id off dat j).2.2.2,()) =
      some (o',(putAt st id off dat (nPc dat)).2.1,(putAt st id off dat (nPc dat)).2.2.1,(putAt st id off dat (nPc dat)).1.1,(putAt st id off dat (nPc dat)).1.2,(putAt st id off dat (nPc dat)).2.2.2,())
  | 0,j,hj,o,_=>by
    rw [Nat.add_zero] at hj
    subst hj
    have:(pieces 24 dat).length=nPc dat:=by simp [pieces,nPc]
    rw [← this,List.drop_length]
    exact ⟨o,rfl⟩
  | k+1,j,hj,o,ho=>by
    have hlt:j<nPc dat:=by omega
    have hlen:(pieces 24 dat).length=nPc dat:=by simp [pieces,nPc]
    have hdrop:(pieces 24 dat).drop j=N5 24 dat j::(pieces 24 dat).drop (j+1):=by
      rw [List.drop_eq_getElem_cons (by omega)];simp [pieces]
    have ho:=ho hlt
    have hI:=B7V hc j (by omega)
    obtain ⟨hr,hf,hn⟩:=C1K hc hI hlt
    have hl:=hc.len
    have hn1:=hc.nx.1
    have hn2:=hc.nx.2
    have hnx:=hI.nx
    have hle:=hI.len
    obtain ⟨hlt',_⟩:=K9.1 hc.has
    have hu:=hc.up.2.2 _ (List.getElem_mem hlt')
    rw [← C9 (k:=kUp) hlt'] at hu
    have hu2:=hu.2.1
    have hat:=hc.at'
    have hft:=hc.fits
    obtain ⟨p1,p2,p3⟩:=C0P dat j (B65.1 hlt)
    have hj2:=B65.1 hlt
    have hw:=B3k (putAt st id off dat j) 2 id (off+((j*24:Nat):Int)) (N5 24 dat j) hI.up hr (B1q (A6u hc.byt _) _) (by omega) (by omega) (by omega) _ hf
    rw [hdrop]
    simp only [B7o,A0k]
    have hw':C8 (((putAt st id off dat j).1.1,(putAt st id off dat j).1.2),((putAt st id off dat j).2.1,((putAt st id off dat j).2.2.1,(putAt st id off dat j).2.2.2))) 2 id o (N5 24 dat j)=some (putAt st id off dat (j+1),()):=by
      rw [ho];exact hw
    rw [hw',w64 (by omega) (by omega)]
    simp only [A3]
    exact C8x hc k (j+1) (by omega) _ (fun hl2=>by have:=B65.1 hl2;omega)
theorem E1m{st:A8}{id:ByteArray}{off:Int}{dat:List Int}(hc:E1l st id off dat)(h400:dat.length≤400) :
    B8 (A0o F3 dat id off) (0,st.2.1,st.2.2.1,st.2.2.2,st.1.1,st.1.2,()) =
      some ((putAt st id off dat (nPc dat)).2.1,(putAt st id off dat (nPc dat)).2.2.1,(putAt st id off dat (nPc dat)).2.2.2,(putAt st id off dat (nPc dat)).1.1,(putAt st id off dat (nPc dat)).1.2,()):=by
  obtain ⟨z,e,hz⟩:=A0i (A0o F3 dat id off) (fun l=>((dat.length:Int)+24-l.1).toNat)
    (fun l=>∃ j:Nat,j≤nPc dat∧l=(((j*24:Nat):Int),(putAt st id off dat j).2.1,(putAt st id off dat j).2.2.1,(putAt st id off dat j).2.2.2,(putAt st id off dat j).1.1,(putAt st id off dat j).1.2,()))
    (fun z=>z=((putAt st id off dat (nPc dat)).2.1,(putAt st id off dat (nPc dat)).2.2.1,(putAt st id off dat (nPc dat)).2.2.2,(putAt st id off dat (nPc dat)).1.1,(putAt st id off dat (nPc dat)).1.2,())) (fun l hl=>by
      obtain ⟨j,hj,rfl⟩:=hl
      have hI:=B7V hc j hj
      have hl:=hc.len
      have hn1:=hc.nx.1
      have hn2:=hc.nx.2
      have hnx:=hI.nx
      have hle:=hI.len
      obtain ⟨hlt',_⟩:=K9.1 hc.has
      have hu:=hc.up.2.2 _ (List.getElem_mem hlt')
      rw [← C9 (k:=kUp) hlt'] at hu
      have hu2:=hu.2.1
      have hat:=hc.at'
      have hft:=hc.fits
      simp only [A0o]
      by_cases hi:j<nPc dat
      · have hj2:=B65.1 hi
        obtain ⟨hr,hf,hn⟩:=C1K hc hI hi
        obtain ⟨p1,p2,p3⟩:=C0P dat j hj2
        rw [A0 (show ((j*24:Nat):Int)<(dat.length:Int) by omega),w64 (n:=((j*24:Nat):Int)+24) (by omega) (by omega)]
        obtain ⟨to,hto,hto2⟩:∃ to:Int,(bif decide (((j*24:Nat):Int)+24>(dat.length:Int)) then some ((dat.length:Int),()) else some (((j*24:Nat):Int)+24,()))=some (to,())∧(to.toNat=min (j*24+24) dat.length∧0≤to):=by
          by_cases hcc:((j*24:Nat):Int)+24>(dat.length:Int)
          · rw [A0 hcc];exact ⟨_,rfl,by omega,by omega⟩
          · rw [A4 hcc];exact ⟨_,rfl,by omega,by omega⟩
        simp only [cond_true,hto,bO]
        have hpc:(dat.take to.toNat).drop ((j*24:Nat):Int).toNat=N5 24 dat j:=by
          rw [hto2.1,Int.toNat_natCast,N5,List.take_eq_take_iff.2 (show min (min (j*24+24) dat.length) dat.length=min (j*24+24) dat.length by omega)]
        rw [hpc,A0 (show 0≤((j*24:Nat):Int) by omega),A0 (show ((j*24:Nat):Int)≤to by omega),A0 (show to≤(dat.length:Int) by omega),A0 (by simp;omega),A0 (by simp;omega),w64 (n:=off+((j*24:Nat):Int)) (by omega) (by omega)]
        simp only [cond_true,List.nil_append]
        have hw:=B3j (putAt st id off dat j) 0 0 2 id (off+((j*24:Nat):Int)) (N5 24 dat j) hI.up hr (B1q (A6u hc.byt _) _) (by omega) (by omega) (by omega) _ hf
        have hw':F3 (((putAt st id off dat j).1.1,(putAt st id off dat j).1.2),((putAt st id off dat j).2.1,((putAt st id off dat j).2.2.1,(putAt st id off dat j).2.2.2))) (0,(0,(2,(id,(off+((j*24:Nat):Int),N5 24 dat j)))))=some (putAt st id off dat (j+1),()):=hw
        rw [hw']
        simp only [bO]
        refine .inl ⟨_,rfl,⟨j+1,by omega,?_⟩,by simp only;omega⟩
        rw [show ((j*24:Nat):Int)+24=(((j+1)*24:Nat):Int) by omega]
      · have:j=nPc dat:=by omega
        subst this
        have:¬ nPc dat*24<dat.length:=fun h=>hi (B65.2 h)
        rw [A4 (show ¬ ((nPc dat*24:Nat):Int)<(dat.length:Int) by omega)]
        exact .inr ⟨_,rfl,rfl⟩) (0,st.2.1,st.2.2.1,st.2.2.2,st.1.1,st.1.2,()) ⟨0,by omega,rfl⟩
  rw [e,hz]
def A7N(st:A8)(id:ByteArray)(off:Int)(dat:List Int):A8×Int:=
  if idB id=true∧1≤dat.length∧dat.length≤400 then
    (if I1 st.2.2.2 id=true then
      (if (rd kUp st.2.2.2 (B5 st.2.2.2 id:Int)).2.2.2=true∨off≠(List.length (rd kUp st.2.2.2 (B5 st.2.2.2 id:Int)).2.2.1:Int)∨off+(dat.length:Int)>(rd kUp st.2.2.2 (B5 st.2.2.2 id:Int)).2.1 then (st,4)
       else if (st.1.1.length:Int)-st.2.2.1<(nPc dat:Int) then (st,5) else (putAt st id off dat (nPc dat),0))
     else (st,2))
  else (st,1)
theorem E82(dat:List Int)(h:dat.length≤400):(IntKind.i64.wrap ((IntKind.i64.wrap ((IntKind.i64.wrap ((dat.length:Int)+24))-1)).tdiv 24))=(nPc dat:Int):=by
  have htd:((dat.length:Int)+24-1).tdiv 24=(nPc dat:Int):=by
    rw [Int.tdiv_eq_ediv_of_nonneg (by omega)]
    unfold nPc
    omega
  rw [w64 (n:=(dat.length:Int)+24) (by omega) (by omega),w64 (n:=(dat.length:Int)+24-1) (by omega) (by omega),htd,w64 (by unfold nPc;omega) (by unfold nPc;omega)]
structure Rt (st:A8):Prop where
  g:C8m st
  up:Ups st.2.2.2
  dk:A2T st.1
theorem C1L{st:A8}{id:ByteArray}{off:Int}{dat:List Int}(h:Rt st)(hb:Byt dat)(h1:idB id=true)(h2:1≤dat.length∧dat.length≤400)(h3:I1 st.2.2.2 id=true)
    (h4:¬ ((rd kUp st.2.2.2 (B5 st.2.2.2 id:Int)).2.2.2=true∨off≠(List.length (rd kUp st.2.2.2 (B5 st.2.2.2 id:Int)).2.2.1:Int)∨off+(dat.length:Int)>(rd kUp st.2.2.2 (B5 st.2.2.2 id:Int)).2.1))
    (h5:¬ (st.1.1.length:Int)-st.2.2.1<(nPc dat:Int)):E1l st id off dat:=by
  obtain ⟨g1,g2,g3,g4,⟨g5,g6⟩,_⟩:=h.g
  rw [not_or,not_or] at h4
  refine ⟨h1,⟨g1,g2⟩,⟨g5,by omega⟩,g4,h.dk,h.up,h3,by simpa using h4.1,Decidable.not_not.1 h4.2.1,by have h6:=h4.2.2;exact Int.not_lt.1 h6,hb,h2.1⟩
theorem E1n(st:A8)(id:ByteArray)(off:Int)(dat:List Int)(hid:id.size≤maxLen)(h:Rt st)(hb:Byt dat)(hd:dat.length≤1048576)(ho:-9223372036854775808≤off∧off≤9223372036854775807) :
    A0O st id off dat=some ((A7N st id off dat).2,(A7N st id off dat).1,()):=by
  obtain ⟨g1,g2,g3,g4,⟨g5,g6⟩,_⟩:=h.g
  have hU:=h.up
  have hl:st.1.1.length≤1048576:=by omega
  have hul:=hU.2.1
  simp only [A0O,A79,B3g id hid,L1,bO,A7N]
  cases hidb:idB id with
  | false=>simp [C2]
  | true=>
    simp only [Bool.not_true,cond_false,true_and]
    by_cases hlen:1≤(dat.length:Int)∧(dat.length:Int)≤400
    · rw [A0 hlen,if_pos (show 1≤dat.length∧dat.length≤400 by omega)]
      simp only [Bool.not_true,cond_false,C2]
      rw [A88 st.2.2.2 id (by simp only [maxLen];omega),B7T st g5 g6 hl,E82 dat (by omega)]
      cases hh:I1 st.2.2.2 id with
      | false=>
        simp only [Bool.false_eq_true,if_false,bO]
        rw [A0 (show (-1:Int)<0 by omega)]
        rfl
      | true=>
        obtain ⟨hlt,hid2⟩:=K9.1 hh
        have hu:=hU.2.2 _ (List.getElem_mem hlt)
        rw [← C9 (k:=kUp) hlt] at hu
        have hu1:=hu.1
        have hu2:=hu.2.1
        simp only [if_true,bO]
        rw [A4 (show ¬ (B5 st.2.2.2 id:Int)<0 by omega)]
        simp only [cond_false]
        cases hdn:(rd kUp st.2.2.2 (B5 st.2.2.2 id:Int)).2.2.2 with
        | true=>simp [bO]
        | false=>
          simp only [cond_false]
          cases ho':decide (off=(List.length (rd kUp st.2.2.2 (B5 st.2.2.2 id:Int)).2.2.1:Int)) with
          | false=>
            have ho:=of_decide_eq_false ho'
            rw [if_pos (.inr (.inl ho))]
            rfl
          | true=>
            have ho:=of_decide_eq_true ho'
            simp only [Bool.not_true,cond_false,bO]
            rw [w64 (n:=off+(dat.length:Int)) (by omega) (by omega)]
            by_cases hw:off+(dat.length:Int)>(rd kUp st.2.2.2 (B5 st.2.2.2 id:Int)).2.1
            · rw [A0 hw,if_pos (.inr (.inr hw))]
              rfl
            · have hno:¬ ((rd kUp st.2.2.2 (B5 st.2.2.2 id:Int)).2.2.2=true∨off≠(List.length (rd kUp st.2.2.2 (B5 st.2.2.2 id:Int)).2.2.1:Int)∨off+(dat.length:Int)>(rd kUp st.2.2.2 (B5 st.2.2.2 id:Int)).2.1):=by
                rw [hdn];rintro (hx | hx | hx)
                · cases hx
                · exact hx ho
                · exact hw hx
              have hno':=hno
              rw [hdn] at hno'
              rw [A4 hw,if_neg hno']
              simp only [cond_false,bO]
              by_cases hleft:(st.1.1.length:Int)-st.2.2.1<(nPc dat:Int)
              · rw [A0 hleft,if_pos hleft]
                rfl
              · rw [A4 hleft,if_neg hleft,A0 (show dat.length≤1152921504606846976 by omega)]
                simp only [cond_false,cond_true]
                have hc:=C1L h hb hidb ⟨by omega,by omega⟩ hh hno hleft
                obtain ⟨o',e⟩:=C8x hc (nPc dat) 0 (by omega) off (fun _=>by simp)
                rw [List.drop_zero] at e
                have e':B7o (A0k C8 id) (pieces 24 dat) (off,st.2.1,st.2.2.1,st.1.1,st.1.2,st.2.2.2,())=_:=e
                rw [e']
                rfl
    · rw [A4 hlen,if_neg (show ¬ (1≤dat.length∧dat.length≤400) by omega)]
      rfl
theorem E1o(st:A8)(id:ByteArray)(off:Int)(dat:List Int)(hid:id.size≤maxLen)(h:Rt st)(hS:A7M st)(hok:G0 st=some (true,()))(hb:Byt dat)(hd:dat.length≤1048576)(ho:-9223372036854775808≤off∧off≤9223372036854775807) :
    A0T st id off dat=some ((A7N st id off dat).1,(A7N st id off dat).2,()):=by
  obtain ⟨g1,g2,g3,g4,⟨g5,g6⟩,_⟩:=h.g
  have hU:=h.up
  have hl:st.1.1.length≤1048576:=by omega
  simp only [A0T,A7F,A1Z st hS,hok,A93 id hid,Q3,bO,A7N]
  cases hidb:idB id with
  | false=>simp [C2]
  | true=>
    simp only [Bool.not_true,cond_false,true_and]
    by_cases hlen:1≤(dat.length:Int)∧(dat.length:Int)≤400
    · rw [A0 hlen,if_pos (show 1≤dat.length∧dat.length≤400 by omega)]
      simp only [Bool.not_true,cond_false,C2]
      rw [C1J st.2.2.2 id hU,B7U st g5 g6 hl,E82 dat (by omega)]
      cases hh:I1 st.2.2.2 id with
      | false=>
        simp only [Bool.false_eq_true,if_false,bO]
        rw [A0 (show (-1:Int)<0 by omega)]
        rfl
      | true=>
        obtain ⟨hlt,hid2⟩:=K9.1 hh
        have hu:=hU.2.2 _ (List.getElem_mem hlt)
        rw [← C9 (k:=kUp) hlt] at hu
        have hu1:=hu.1
        have hu2:=hu.2.1
        simp only [if_true,bO]
        rw [A4 (show ¬ (B5 st.2.2.2 id:Int)<0 by omega),A0 (show (0:Int)≤(B5 st.2.2.2 id:Int) by omega),A0 (show (B5 st.2.2.2 id:Int)<(st.2.2.2.length:Int) by omega)]
        simp only [cond_true,cond_false]
        cases hdn:(rd kUp st.2.2.2 (B5 st.2.2.2 id:Int)).2.2.2 with
        | true=>simp [bO]
        | false=>
          simp only [cond_false]
          cases ho':decide (off=(List.length (rd kUp st.2.2.2 (B5 st.2.2.2 id:Int)).2.2.1:Int)) with
          | false=>
            have ho:=of_decide_eq_false ho'
            rw [if_pos (.inr (.inl ho))]
            rfl
          | true=>
            have ho:=of_decide_eq_true ho'
            simp only [Bool.not_true,cond_false,bO]
            rw [w64 (n:=off+(dat.length:Int)) (by omega) (by omega)]
            by_cases hw:off+(dat.length:Int)>(rd kUp st.2.2.2 (B5 st.2.2.2 id:Int)).2.1
            · rw [A0 hw,if_pos (.inr (.inr hw))]
              rfl
            · have hno:¬ ((rd kUp st.2.2.2 (B5 st.2.2.2 id:Int)).2.2.2=true∨off≠(List.length (rd kUp st.2.2.2 (B5 st.2.2.2 id:Int)).2.2.1:Int)∨off+(dat.length:Int)>(rd kUp st.2.2.2 (B5 st.2.2.2 id:Int)).2.1):=by
                rw [hdn];rintro (hx | hx | hx)
                · cases hx
                · exact hx ho
                · exact hw hx
              have hno':=hno
              rw [hdn] at hno'
              rw [A4 hw,if_neg hno']
              simp only [cond_false,bO]
              by_cases hleft:(st.1.1.length:Int)-st.2.2.1<(nPc dat:Int)
              · rw [A0 hleft,if_pos hleft]
                rfl
              · rw [A4 hleft,if_neg hleft]
                simp only [cond_false]
                have hc:=C1L h hb hidb ⟨by omega,by omega⟩ hh hno hleft
                rw [E1m hc (by omega)]
                rfl
    · rw [A4 hlen,if_neg (show ¬ (1≤dat.length∧dat.length≤400) by omega)]
      rfl
theorem D86{st:A8}{id:ByteArray}{off:Int}{dat:List Int}(h:Rt st)(hb:Byt dat):Ups (A7N st id off dat).1.2.2.2∧A2T (A7N st id off dat).1.1:=by
  unfold A7N
  split
  · rename_i h1
    split
    · rename_i h3
      split
      · exact ⟨h.up,h.dk⟩
      · rename_i h4
        split
        · exact ⟨h.up,h.dk⟩
        · rename_i h5
          have:=B7V (C1L h hb h1.1 h1.2 h3 h4 h5) _ (Nat.le_refl _)
          exact ⟨this.up,this.dk⟩
    · exact ⟨h.up,h.dk⟩
  · exact ⟨h.up,h.dk⟩
theorem E1p{s:A8}(hd:A2T s.1)(hu:Ups s.2.2.2):A7M s:=⟨hd,by have:=hu.2.1;omega,B3i hu⟩
def A56(st:A8)(id:ByteArray)(want:Int):A8×Int:=
  if idB id=true∧0≤want∧want≤1000000 then
    (if I1 st.2.2.2 id=true then (st,3)
     else if (st.1.1.length:Int)-st.2.2.1<1∨10≤st.2.2.2.length then (st,5)
     else (wrote st (st.2.1,st.2.2.1,1,id,want,[]) (st.2.2.2.take (B5 st.2.2.2 id)++(id,want,[],false)::st.2.2.2.drop (B5 st.2.2.2 id)),0))
  else (st,1)
def A57(st:A8)(id:ByteArray)(sum:Int):A8×Int:=
  if idB id=true then
    (if I1 st.2.2.2 id=true then
      (if (List.length (rd kUp st.2.2.2 (B5 st.2.2.2 id:Int)).2.2.1:Int)<(rd kUp st.2.2.2 (B5 st.2.2.2 id:Int)).2.1 then (st,4)
       else if sum≠((B1G (rd kUp st.2.2.2 (B5 st.2.2.2 id:Int)).2.2.1 ^^^ 4294967295:Nat):Int) then (st,6)
       else if (rd kUp st.2.2.2 (B5 st.2.2.2 id:Int)).2.2.2=true then (st,0)
       else if (st.1.1.length:Int)-st.2.2.1<1 then (st,5)
       else (wrote st (st.2.1,st.2.2.1,3,id,0,[]) (st.2.2.2.set (B5 st.2.2.2 id) ((rd kUp st.2.2.2 (B5 st.2.2.2 id:Int)).1,(rd kUp st.2.2.2 (B5 st.2.2.2 id:Int)).2.1,(rd kUp st.2.2.2 (B5 st.2.2.2 id:Int)).2.2.1,true)),0))
     else (st,2))
  else (st,1)
def A58(st:A8)(id:ByteArray):A8×Int:=
  if idB id=true then
    (if I1 st.2.2.2 id=true then
      (if (st.1.1.length:Int)-st.2.2.1<1 then (st,5)
       else (wrote st (st.2.1,st.2.2.1,4,id,0,[]) (st.2.2.2.take (B5 st.2.2.2 id)++st.2.2.2.drop (B5 st.2.2.2 id+1)),0))
     else (st,2))
  else (st,1)
theorem B3l{st:A8}(h:C8m st)(k n:Int)(id:ByteArray)(hid:idB id=true)(hl:¬ (st.1.1.length:Int)-st.2.2.1<1)(hk:k=1∧0≤n∧n≤1000000000∨(k=3∨k=4)∧n=0):O9 (st.2.1,st.2.2.1,k,id,n,[])=true:=by
  obtain ⟨g1,g2,g3,g4,⟨g5,g6⟩,_⟩:=h
  simp only [O9,hid,List.length_nil]
  rw [A0 (show 0≤st.2.1∧st.2.1≤10000 by omega),A0 (show 0≤st.2.2.1∧st.2.2.1≤199 by omega)]
  rcases hk with ⟨rfl,h0,h1⟩ | ⟨rfl | rfl,rfl⟩
  · rw [if_pos rfl,A0 (show 0≤n∧n≤1000000000 from ⟨h0,h1⟩)];rfl
  · rfl
  · rfl
theorem C3X{st:A8}{id:ByteArray}{want:Int}(h1:¬ I1 st.2.2.2 id=true)(h2:¬ 10≤st.2.2.2.length):N4 st.2.2.2 (st.2.1,st.2.2.1,1,id,want,[])=some (st.2.2.2.take (B5 st.2.2.2 id)++(id,want,[],false)::st.2.2.2.drop (B5 st.2.2.2 id)):=by
  simp only [N4,if_true]
  rw [if_neg (fun h=>h.elim h1 h2)]
theorem C3Y{st:A8}{id:ByteArray}(hU:Ups st.2.2.2)(h1:I1 st.2.2.2 id=true)(h2:¬ (List.length (rd kUp st.2.2.2 (B5 st.2.2.2 id:Int)).2.2.1:Int)<(rd kUp st.2.2.2 (B5 st.2.2.2 id:Int)).2.1)(h3:¬ (rd kUp st.2.2.2 (B5 st.2.2.2 id:Int)).2.2.2=true) :
    N4 st.2.2.2 (st.2.1,st.2.2.1,3,id,0,[])=some (st.2.2.2.set (B5 st.2.2.2 id) ((rd kUp st.2.2.2 (B5 st.2.2.2 id:Int)).1,(rd kUp st.2.2.2 (B5 st.2.2.2 id:Int)).2.1,(rd kUp st.2.2.2 (B5 st.2.2.2 id:Int)).2.2.1,true)):=by
  obtain ⟨hlt,hid2⟩:=K9.1 h1
  have hu:=hU.2.2 _ (List.getElem_mem hlt)
  rw [← C9 (k:=kUp) hlt] at hu
  have hu1:=hu.1
  simp only [N4,h1]
  rw [if_neg (by omega),if_neg (by simp),if_neg (by omega),if_pos trivial,if_neg (fun h=>h.elim h3 (fun h=>h (Int.le_antisymm hu1 (Int.not_lt.1 h2))))]
theorem C3Z{st:A8}{id:ByteArray}(h1:I1 st.2.2.2 id=true):N4 st.2.2.2 (st.2.1,st.2.2.1,4,id,0,[])=some (st.2.2.2.take (B5 st.2.2.2 id)++st.2.2.2.drop (B5 st.2.2.2 id+1)):=by
  simp only [N4,h1]
  rw [if_neg (by omega),if_neg (by simp),if_neg (by omega),if_neg (by omega),if_pos trivial]
theorem D87(st:A8)(id:ByteArray)(want:Int)(hid:id.size≤maxLen)(h:Rt st):Y8 st id want=some ((A56 st id want).2,(A56 st id want).1,()):=by
  obtain ⟨g1,g2,g3,g4,⟨g5,g6⟩,_⟩:=h.g
  have hU:=h.up
  have hl:st.1.1.length≤1048576:=by omega
  have hul:=hU.2.1
  simp only [Y8,A5O,B3g id hid,L1,bO,A56]
  cases hidb:idB id with
  | false=>simp [C2,bO]
  | true=>
    simp only [Bool.not_true,cond_false,true_and]
    by_cases hw:0≤want∧want≤1000000
    · rw [A0 hw,if_pos hw]
      simp only [Bool.not_true,cond_false,C2]
      rw [A88 st.2.2.2 id (by simp only [maxLen];omega),B7T st g5 g6 hl]
      cases hh:I1 st.2.2.2 id with
      | true=>
        simp only [if_true,bO]
        rw [A4 (show ¬ (B5 st.2.2.2 id:Int)<0 by omega)]
        rfl
      | false=>
        simp only [Bool.false_eq_true,if_false,bO]
        rw [A0 (show (-1:Int)<0 by omega)]
        simp only [cond_true]
        by_cases hleft:(st.1.1.length:Int)-st.2.2.1<1
        · rw [A0 hleft,if_pos (.inl hleft)]
          rfl
        · rw [A4 hleft]
          simp only [cond_false]
          by_cases h10:10≤st.2.2.2.length
          · rw [A0 (show (st.2.2.2.length:Int)≥10 by omega),if_pos (.inr h10)]
            rfl
          · rw [A4 (show ¬ (st.2.2.2.length:Int)≥10 by omega),if_neg (fun hx=>hx.elim hleft h10)]
            simp only [cond_false]
            have hr:=B3l h.g 1 want id hidb hleft (.inl ⟨rfl,hw.1,by omega⟩)
            have hf:=C3X (st:=st) (id:=id) (want:=want) (by rw [hh];simp) h10
            rw [B3k st 1 id want [] hU hr A22 g5 (by omega) hl _ hf]
            rfl
    · rw [A4 hw,if_neg hw]
      rfl
theorem D88(st:A8)(id:ByteArray)(want:Int)(hid:id.size≤maxLen)(h:Rt st)(hS:A7M st)(hok:G0 st=some (true,())):Z3 st id want=some ((A56 st id want).1,(A56 st id want).2,()):=by
  obtain ⟨g1,g2,g3,g4,⟨g5,g6⟩,_⟩:=h.g
  have hU:=h.up
  have hl:st.1.1.length≤1048576:=by omega
  have hul:=hU.2.1
  simp only [Z3,A5Y,A1Z st hS,hok,A93 id hid,Q3,bO,A56]
  cases hidb:idB id with
  | false=>simp [C2,bO]
  | true=>
    simp only [Bool.not_true,cond_false,true_and]
    by_cases hw:0≤want∧want≤1000000
    · rw [A0 hw,if_pos hw]
      simp only [Bool.not_true,cond_false,C2]
      rw [C1J st.2.2.2 id hU,B7U st g5 g6 hl]
      cases hh:I1 st.2.2.2 id with
      | true=>
        simp only [if_true,bO]
        rw [A0 (show (B5 st.2.2.2 id:Int)≥0 by omega)]
        rfl
      | false=>
        simp only [Bool.false_eq_true,if_false,bO]
        rw [A4 (show ¬ (-1:Int)≥0 by omega)]
        simp only [cond_false]
        by_cases hleft:(st.1.1.length:Int)-st.2.2.1<1
        · rw [A0 hleft,if_pos (.inl hleft)]
          rfl
        · rw [A4 hleft]
          simp only [cond_false]
          by_cases h10:10≤st.2.2.2.length
          · rw [A0 (show (st.2.2.2.length:Int)=10 by omega),if_pos (.inr h10)]
            rfl
          · rw [A4 (show ¬ (st.2.2.2.length:Int)=10 by omega),if_neg (fun hx=>hx.elim hleft h10)]
            simp only [cond_false]
            have hr:=B3l h.g 1 want id hidb hleft (.inl ⟨rfl,hw.1,by omega⟩)
            have hf:=C3X (st:=st) (id:=id) (want:=want) (by rw [hh];simp) h10
            rw [B3j st 0 0 1 id want [] hU hr A22 g5 (by omega) hl _ hf]
            rfl
    · rw [A4 hw,if_neg hw]
      rfl
theorem D89(st:A8)(id:ByteArray)(sum:Int)(hid:id.size≤maxLen)(h:Rt st):Y9 st id sum=some ((A57 st id sum).2,(A57 st id sum).1,()):=by
  obtain ⟨g1,g2,g3,g4,⟨g5,g6⟩,_⟩:=h.g
  have hU:=h.up
  have hl:st.1.1.length≤1048576:=by omega
  have hul:=hU.2.1
  simp only [Y9,A5P,B3g id hid,bO,A57]
  cases hidb:idB id with
  | false=>rfl
  | true=>
    simp only [Bool.not_true,cond_false,if_true]
    rw [A88 st.2.2.2 id (by simp only [maxLen];omega),B7T st g5 g6 hl]
    cases hh:I1 st.2.2.2 id with
    | false=>
      simp only [Bool.false_eq_true,if_false,bO]
      rw [A0 (show (-1:Int)<0 by omega)]
      rfl
    | true=>
      obtain ⟨hlt,hid2⟩:=K9.1 hh
      have hu:=hU.2.2 _ (List.getElem_mem hlt)
      have hdl:=B3i hU _ (List.getElem_mem hlt)
      rw [← C9 (k:=kUp) hlt] at hu hdl
      simp only [if_true,bO]
      rw [A4 (show ¬ (B5 st.2.2.2 id:Int)<0 by omega)]
      simp only [cond_false]
      rw [C8d _ hu.2.2.2 (by simp only [maxLen];omega)]
      simp only [bO]
      by_cases hd1:(List.length (rd kUp st.2.2.2 (B5 st.2.2.2 id:Int)).2.2.1:Int)<(rd kUp st.2.2.2 (B5 st.2.2.2 id:Int)).2.1
      · rw [A0 hd1,if_pos hd1]
        rfl
      rw [A4 hd1,if_neg hd1]
      simp only [cond_false]
      by_cases hc:sum=((B1G (rd kUp st.2.2.2 (B5 st.2.2.2 id:Int)).2.2.1 ^^^ 4294967295:Nat):Int)
      · rw [A0 hc,if_neg (fun hx=>hx hc)]
        simp only [Bool.not_true,cond_false]
        cases hdn:(rd kUp st.2.2.2 (B5 st.2.2.2 id:Int)).2.2.2 with
        | true=>rfl
        | false=>
          simp only [Bool.not_false,cond_true,cond_false,Bool.false_eq_true,if_false,bO]
          by_cases hleft:(st.1.1.length:Int)-st.2.2.1<1
          · rw [A0 hleft,if_pos hleft]
            rfl
          · rw [A4 hleft,if_neg hleft]
            simp only [cond_false]
            have hr:=B3l h.g 3 0 id hidb hleft (.inr ⟨.inl rfl,rfl⟩)
            have hf:=C3Y hU hh hd1 (by rw [hdn];simp)
            have hwi:C8 ((st.1.1,st.1.2),(st.2.1,(st.2.2.1,st.2.2.2))) 3 id 0 []=_:=B3k st 3 id 0 [] hU hr A22 g5 (by omega) hl _ hf
            simp only [C2,Bool.not_false,cond_true]
            rw [hwi]
            rfl
      · rw [A4 hc,if_pos hc]
        rfl
theorem D8A(st:A8)(id:ByteArray)(sum:Int)(hid:id.size≤maxLen)(h:Rt st)(hS:A7M st)(hok:G0 st=some (true,())):Z4 st id sum=some ((A57 st id sum).1,(A57 st id sum).2,()):=by
  obtain ⟨g1,g2,g3,g4,⟨g5,g6⟩,_⟩:=h.g
  have hU:=h.up
  have hl:st.1.1.length≤1048576:=by omega
  have hul:=hU.2.1
  simp only [Z4,A5Z,A1Z st hS,hok,A93 id hid,bO,A57]
  cases hidb:idB id with
  | false=>rfl
  | true=>
    simp only [Bool.not_true,cond_false,C2,if_true]
    rw [C1J st.2.2.2 id hU,B7U st g5 g6 hl]
    cases hh:I1 st.2.2.2 id with
    | false=>
      simp only [Bool.false_eq_true,if_false,bO]
      rw [A0 (show (-1:Int)<0 by omega)]
      rfl
    | true=>
      obtain ⟨hlt,hid2⟩:=K9.1 hh
      have hu:=hU.2.2 _ (List.getElem_mem hlt)
      have hdl:=B3i hU _ (List.getElem_mem hlt)
      rw [← C9 (k:=kUp) hlt] at hu hdl
      simp only [if_true,bO]
      rw [A4 (show ¬ (B5 st.2.2.2 id:Int)<0 by omega),A0 (show (0:Int)≤(B5 st.2.2.2 id:Int) by omega),A0 (show (B5 st.2.2.2 id:Int)<(st.2.2.2.length:Int) by omega)]
      simp only [cond_true,cond_false]
      rw [C8c _ hu.2.2.2 (by simp only [maxLen];omega)]
      simp only [bO]
      by_cases hd1:(List.length (rd kUp st.2.2.2 (B5 st.2.2.2 id:Int)).2.2.1:Int)<(rd kUp st.2.2.2 (B5 st.2.2.2 id:Int)).2.1
      · rw [A0 hd1,if_pos hd1]
        rfl
      rw [A4 hd1,if_neg hd1]
      simp only [cond_false]
      by_cases hc:sum=((B1G (rd kUp st.2.2.2 (B5 st.2.2.2 id:Int)).2.2.1 ^^^ 4294967295:Nat):Int)
      · rw [A0 hc,if_neg (fun hx=>hx hc)]
        simp only [Bool.not_true,cond_false]
        cases hdn:(rd kUp st.2.2.2 (B5 st.2.2.2 id:Int)).2.2.2 with
        | true=>rfl
        | false=>
          simp only [Bool.not_false,cond_true,cond_false,Bool.false_eq_true,if_false,bO]
          by_cases hleft:(st.1.1.length:Int)-st.2.2.1<1
          · rw [A0 hleft,if_pos hleft]
            rfl
          · rw [A4 hleft,if_neg hleft]
            simp only [cond_false]
            have hr:=B3l h.g 3 0 id hidb hleft (.inr ⟨.inl rfl,rfl⟩)
            have hf:=C3Y hU hh hd1 (by rw [hdn];simp)
            rw [B3j st 0 0 3 id 0 [] hU hr A22 g5 (by omega) hl _ hf]
            rfl
      · rw [A4 hc,if_pos hc]
        rfl
theorem D8B(st:A8)(id:ByteArray)(hid:id.size≤maxLen)(h:Rt st):Z0 st id=some ((A58 st id).2,(A58 st id).1,()):=by
  obtain ⟨g1,g2,g3,g4,⟨g5,g6⟩,_⟩:=h.g
  have hU:=h.up
  have hl:st.1.1.length≤1048576:=by omega
  have hul:=hU.2.1
  simp only [Z0,A5Q,B3g id hid,bO,A58]
  cases hidb:idB id with
  | false=>rfl
  | true=>
    simp only [Bool.not_true,cond_false,if_true,C2]
    rw [A88 st.2.2.2 id (by simp only [maxLen];omega),B7T st g5 g6 hl]
    cases hh:I1 st.2.2.2 id with
    | false=>
      simp only [Bool.false_eq_true,if_false,bO]
      rw [A0 (show (-1:Int)<0 by omega)]
      rfl
    | true=>
      simp only [if_true,bO]
      rw [A4 (show ¬ (B5 st.2.2.2 id:Int)<0 by omega)]
      simp only [cond_false,Bool.not_true]
      by_cases hleft:(st.1.1.length:Int)-st.2.2.1<1
      · rw [A0 hleft,if_pos hleft]
        rfl
      · rw [A4 hleft,if_neg hleft]
        simp only [cond_false]
        have hr:=B3l h.g 4 0 id hidb hleft (.inr ⟨.inr rfl,rfl⟩)
        have hf:=C3Z (st:=st) hh
        have hwi:C8 ((st.1.1,st.1.2),(st.2.1,(st.2.2.1,st.2.2.2))) 4 id 0 []=_:=B3k st 4 id 0 [] hU hr A22 g5 (by omega) hl _ hf
        rw [hwi]
        rfl
theorem D8C(st:A8)(id:ByteArray)(hid:id.size≤maxLen)(h:Rt st)(hS:A7M st)(hok:G0 st=some (true,())):Z5 st id=some ((A58 st id).1,(A58 st id).2,()):=by
  obtain ⟨g1,g2,g3,g4,⟨g5,g6⟩,_⟩:=h.g
  have hU:=h.up
  have hl:st.1.1.length≤1048576:=by omega
  have hul:=hU.2.1
  simp only [Z5,A5a,A1Z st hS,hok,A93 id hid,bO,A58]
  cases hidb:idB id with
  | false=>rfl
  | true=>
    simp only [Bool.not_true,cond_false,C2,if_true]
    rw [C1J st.2.2.2 id hU,B7U st g5 g6 hl]
    cases hh:I1 st.2.2.2 id with
    | false=>
      simp only [Bool.false_eq_true,if_false,bO]
      rw [A0 (show (-1:Int)<0 by omega)]
      rfl
    | true=>
      simp only [if_true,bO]
      rw [A4 (show ¬ (B5 st.2.2.2 id:Int)<0 by omega)]
      simp only [cond_false]
      by_cases hleft:(st.1.1.length:Int)-st.2.2.1<1
      · rw [A0 hleft,if_pos hleft]
        rfl
      · rw [A4 hleft,if_neg hleft]
        simp only [cond_false]
        have hr:=B3l h.g 4 0 id hidb hleft (.inr ⟨.inr rfl,rfl⟩)
        have hf:=C3Z (st:=st) hh
        rw [B3j st 0 0 4 id 0 [] hU hr A22 g5 (by omega) hl _ hf]
        rfl
theorem D1h{xs:List Int}(h:Byt xs):bytesOf (strOf xs)=xs:=by
  show ((strOfNums xs).data.toList.map fun b=>(b.toNat:Int))=xs
  rw [strOfNums_data,List.map_map]
  refine (List.map_congr_left fun x hx=>?_).trans (List.map_id _)
  have:=h x hx
  simp only [Function.comp,id]
  have e:(UInt8.ofNat x.toNat).toNat=x.toNat % 256:=UInt8.toNat_ofNat
  rw [e]
  omega
theorem D1i(s:ByteArray):strOf (bytesOf s)=s:=by
  refine E4L ?_
  rw [ByteArray.toList_eq,ByteArray.toList_eq]
  show ((bytesOf s).map fun n=>UInt8.ofNat n.toNat)=s.data.toList
  rw [bytesOf,List.map_map]
  refine (List.map_congr_left fun x hx=>?_).trans (List.map_id _)
  simp
theorem D8D(n:Nat):IntKind.u8.wrap (n:Int)=((n % 256:Nat):Int):=by
  simp only [IntKind.wrap,IntKind.bits,IntKind.signed]
  simp
theorem D8E(x y:Nat)(h:y<256):(x*256) ||| y=x*256+y:=by
  have:=Nat.two_pow_add_eq_or_of_lt (i:=8) (b:=y) (by simpa using h) x
  rw [Nat.mul_comm x 256]
  exact this.symm
theorem D8F(p q:List Int)(n k:Nat):∀ j,j≤k→V1 (p++(big (n:Int) k++q)) p.length j=n / 2 ^ (8*(k-j)) % 2 ^ (8*j)
  | 0,_=>by simp [V1,Nat.mod_one]
  | j+1,hj=>by
    have ih:=D8F p q n k j (by omega)
    have hget:(p++(big (n:Int) k++q)).getD (p.length+j) 0=C8Z (n:Int) k j:=by
      simp only [List.getD]
      rw [List.getElem?_append_right (by omega),Nat.add_sub_cancel_left,List.getElem?_append_left (by rw [J4];omega)]
      simp only [big,List.getElem?_map,List.getElem?_range (show j<k by omega),Option.map_some,Option.getD_some]
    have hat:C8Z (n:Int) k j=((n / 2 ^ (8*(k-1-j)) % 256:Nat):Int):=by
      unfold C8Z
      rw [← D8D]
      congr 1
      rw [show (2:Int) ^ (8*(k-1-j))=((2 ^ (8*(k-1-j)):Nat):Int) by rw [Int.natCast_pow];rfl,Int.fdiv_eq_ediv_of_nonneg _ (Int.natCast_nonneg _),← Int.natCast_ediv]
    simp only [V1]
    rw [ih,hget,hat,Int.toNat_natCast,D8E _ _ (Nat.mod_lt _ (by omega))]
    rw [show k-1-j=k-(j+1) by omega]
    have e1:2 ^ (8*(k-j))=2 ^ (8*(k-(j+1)))*256:=by rw [show 8*(k-j)=8*(k-(j+1))+8 by omega,Nat.pow_add]
    have e2:2 ^ (8*(j+1))=256*2 ^ (8*j):=by rw [show 8*(j+1)=8+8*j by omega,Nat.pow_add]
    rw [e1,← Nat.div_div_eq_div_mul,e2,Nat.mod_mul]
    omega
theorem A89{b:List Int}(p q:List Int)(n:Int)(k a:Nat)(h:b=p++(big n k++q))(ha:a=p.length)(h0:0≤n)(h1:n<2 ^ (8*k)):(V1 b a k:Int)=n:=by
  subst h;subst ha
  obtain ⟨m,rfl⟩:∃ m:Nat,n=(m:Int):=⟨n.toNat,by omega⟩
  rw [D8F p q m k k (Nat.le_refl _),Nat.sub_self,Nat.mul_zero,Nat.pow_zero,Nat.div_one]
  rw [show (2:Int) ^ (8*k)=((2 ^ (8*k):Nat):Int) by rw [Int.natCast_pow];rfl] at h1
  rw [Nat.mod_eq_of_lt (by omega)]
theorem D5U{r:H4}(h:C0O r):bytesOf (V4 r)=B4j r++big (Z6 (F0Z (B4j r))) 4:=by
  unfold V4
  exact D1h (D5O (C8h r h.2) (E4F _ _))
theorem E9a{r:H4}(h:O9 r=true)(c:List Int):B4j r++c=big r.1 3++(big r.2.1 2++(big r.2.2.1 1++(big (r.2.2.2.1.size:Int) 1++(bytesOf r.2.2.2.1++(big r.2.2.2.2.1 4++(big (List.length r.2.2.2.2.2:Int) 1++(r.2.2.2.2.2++c))))))):=by
  have hb:=Z7 h
  have hq:0≤r.2.1:=by
    simp only [O9,Bool.and_eq_true] at h
    exact (of_decide_eq_true h.1.1.2).1
  unfold B4j
  rw [A4j (n:=r.1) (by omega),A4j (n:=r.2.1) hq,A4j (n:=r.2.2.1) (by omega),A4j (n:=(r.2.2.2.1.size:Int)) (by omega),A4j (n:=r.2.2.2.2.1) (by omega),A4j (n:=(List.length r.2.2.2.2.2:Int)) (by omega)]
  simp only [List.append_assoc]
theorem E5c{r:H4}(h:O9 r=true):0≤r.2.1∧r.2.1≤199:=by
  simp only [O9,Bool.and_eq_true] at h
  exact of_decide_eq_true h.1.1.2
theorem E5d{r:H4}(h:O9 r=true)(c:List Int):D9 (B4j r++c)=r.2.2.2.1.size∧O0 (B4j r++c)=List.length r.2.2.2.2.2∧recAt (B4j r++c)=r:=by
  have hb:=Z7 h
  have hq:=E5c h
  have e:=E9a h c
  generalize B4j r++c=b at e
  have b6:(V1 b 6 1:Int)=(r.2.2.2.1.size:Int):=A89 (big r.1 3++(big r.2.1 2++big r.2.2.1 1)) _ _ 1 6 (by rw [e];simp only [List.append_assoc];rfl) (by simp [J4]) (by omega) (by omega)
  have hid:D9 b=r.2.2.2.1.size:=by unfold D9;omega
  have b11:(V1 b (11+D9 b) 1:Int)=(List.length r.2.2.2.2.2:Int):=
    A89 (big r.1 3++(big r.2.1 2++(big r.2.2.1 1++(big (r.2.2.2.1.size:Int) 1++(bytesOf r.2.2.2.1++big r.2.2.2.2.1 4))))) _ _ 1 _ (by rw [e];simp only [List.append_assoc];rfl) (by simp [J4,bytesOf_length,hid];omega) (by omega) (by omega)
  have hdl:O0 b=List.length r.2.2.2.2.2:=by unfold O0;omega
  refine ⟨hid,hdl,?_⟩
  have b0:(V1 b 0 3:Int)=r.1:=A89 [] _ _ 3 0 (by rw [e];rfl) rfl (by omega) (by omega)
  have b3:(V1 b 3 2:Int)=r.2.1:=A89 (big r.1 3) _ _ 2 3 (by rw [e]) (by simp [J4]) (by omega) (by omega)
  have b5:(V1 b 5 1:Int)=r.2.2.1:=A89 (big r.1 3++big r.2.1 2) _ _ 1 5 (by rw [e];simp only [List.append_assoc];rfl) (by simp [J4]) (by omega) (by omega)
  have b7:(V1 b (7+D9 b) 4:Int)=r.2.2.2.2.1:=A89 (big r.1 3++(big r.2.1 2++(big r.2.2.1 1++(big (r.2.2.2.1.size:Int) 1++bytesOf r.2.2.2.1)))) _ _ 4 _ (by rw [e];simp only [List.append_assoc];rfl) (by simp [J4,bytesOf_length,hid];omega) (by omega) (by omega)
  have t1:(b.take (7+D9 b)).drop 7=bytesOf r.2.2.2.1:=by
    have e7:b=(big r.1 3++(big r.2.1 2++(big r.2.2.1 1++big (r.2.2.2.1.size:Int) 1)))++(bytesOf r.2.2.2.1++(big r.2.2.2.2.1 4++(big (List.length r.2.2.2.2.2:Int) 1++(r.2.2.2.2.2++c)))):=by rw [e];simp only [List.append_assoc]
    have hl7:(big r.1 3++(big r.2.1 2++(big r.2.2.1 1++big (r.2.2.2.1.size:Int) 1))).length=7:=by simp [J4]
    rw [hid,List.drop_take,Nat.add_sub_cancel_left,e7,← hl7,List.drop_left,← bytesOf_length,List.take_left]
  have t2:(b.take (12+D9 b+O0 b)).drop (12+D9 b)=r.2.2.2.2.2:=by
    have e12:b=(big r.1 3++(big r.2.1 2++(big r.2.2.1 1++(big (r.2.2.2.1.size:Int) 1++(bytesOf r.2.2.2.1++(big r.2.2.2.2.1 4++big (List.length r.2.2.2.2.2:Int) 1))))))++(r.2.2.2.2.2++c):=by rw [e];simp only [List.append_assoc]
    have hl12:(big r.1 3++(big r.2.1 2++(big r.2.2.1 1++(big (r.2.2.2.1.size:Int) 1++(bytesOf r.2.2.2.1++(big r.2.2.2.2.1 4++big (List.length r.2.2.2.2.2:Int) 1)))))).length=12+r.2.2.2.1.size:=by simp [J4,bytesOf_length];omega
    rw [hid,hdl,List.drop_take,Nat.add_sub_cancel_left,e12,← hl12,List.drop_left,List.take_left]
  unfold recAt
  rw [b0,b3,b5,b7,t1,t2,D1i]
theorem C8y{r:H4}(h:C0O r):F7 (V4 r)=(r,true,()):=by
  have hpb:=D5U h
  obtain ⟨h1,h2,h3⟩:=E5d h.1 (big (Z6 (F0Z (B4j r))) 4)
  have hsz:(V4 r).size=12+r.2.2.2.1.size+List.length r.2.2.2.2.2+4:=by
    unfold V4
    rw [A5c,List.length_append,B60,J4]
  have hg:B3h (V4 r)=true:=by
    unfold B3h
    rw [hpb,h1,h2,h3,hsz,A0 (by omega),h.1]
    simp
  unfold F7
  rw [if_pos hg,hpb,h3]
theorem E5e{r:H4}(h:O9 r=true):(V4 r).size≤64:=by
  have hb:=Z7 h
  unfold V4
  rw [A5c,List.length_append,B60,J4]
  omega
def A94(last:Int)(i:Nat)(s:ByteArray):Bool:=(F7 s).2.1&&decide ((F7 s).1.2.1=(i:Int))&&!decide ((F7 s).1.1<last)
def Q9(last:Int)(i:Nat):List ByteArray→List H4
  | []=> []
  | s::l=>if A94 last i s=true then (F7 s).1::Q9 (F7 s).1.1 (i+1) l else []
def G2(now:List ByteArray):List H4:=Q9 0 0 now
def B0H:Int→List H4→Int
  | e,[]=>e
  | _,r::l=>B0H r.1 l
theorem B1r(last:Int)(i:Nat)(l:List ByteArray):(Q9 last i l).length≤l.length:=by
  induction l generalizing last i with
  | nil=>exact Nat.le_refl _
  | cons s l ih=>
    simp only [Q9]
    split
    · have:=ih (F7 s).1.1 (i+1);simp only [List.length_cons];omega
    · simp
theorem B3m(last:Int)(i:Nat)(l:List ByteArray):∀ r∈Q9 last i l,C0O r:=by
  induction l generalizing last i with
  | nil=>intro r hr;cases hr
  | cons s l ih=>
    intro r hr
    simp only [Q9] at hr
    split at hr
    · rename_i hg
      simp only [A94,Bool.and_eq_true] at hg
      rcases List.mem_cons.1 hr with rfl | hr
      · exact C4a hg.1.1
      · exact ih _ _ r hr
    · cases hr
theorem E5f(last:Int)(i:Nat)(a b:List ByteArray)(h:(Q9 last i a).length=a.length):Q9 last i (a++b)=Q9 last i a++Q9 (B0H last (Q9 last i a)) (i+a.length) b:=by
  induction a generalizing last i with
  | nil=>simp [Q9,B0H]
  | cons s a ih=>
    simp only [Q9,List.cons_append] at h ⊢
    split
    · rename_i hg
      rw [if_pos hg] at h
      simp only [List.length_cons,Nat.add_right_cancel_iff] at h
      rw [ih _ _ h,List.cons_append,B0H,List.length_cons]
      congr 3
      omega
    · rename_i hg
      rw [if_neg hg] at h
      simp at h
theorem E1q(last:Int)(i:Nat)(l:List ByteArray):Q9 last i (l.take (Q9 last i l).length)=Q9 last i l:=by
  induction l generalizing last i with
  | nil=>rfl
  | cons s l ih=>
    simp only [Q9]
    split
    · rename_i hg
      simp only [List.length_cons,List.take_succ_cons,Q9,if_pos hg,ih]
    · rfl
theorem E1r(last:Int)(i:Nat)(l:List ByteArray)(h:∀ s,l.head? = some s→A94 last i s=false):Q9 last i l = []:=by
  cases l with
  | nil=>rfl
  | cons s l=>simp only [Q9,h s rfl,Bool.false_eq_true,if_false]
theorem C8z(last:Int)(i:Nat)(s:ByteArray)(l:List ByteArray):Q9 last i (s::l)=bif A94 last i s then (F7 s).1::Q9 (F7 s).1.1 (i+1) l else []:=by
  simp only [Q9]
  cases A94 last i s<;>rfl
set_option maxRecDepth 100000 in
theorem B7W(d:D5)(h:A5e d.1):W6 d=some (G2 d.1,()):=by
  have hl:=h.1
  obtain ⟨z,e,hz⟩:=A0i (Q7 K5 d) (fun l=>((d.1.length:Int)-l.2.1).toNat) (fun l=>∃ i:Nat,l.2.1=(i:Int)∧i≤d.1.length∧List.length l.2.2.1=i∧G2 d.1=l.2.2.1++Q9 l.1 i (d.1.drop i))
    (fun z=>z=(G2 d.1,())) (fun l hl=>by
      obtain ⟨i,h0,h1,h2,h3⟩:=hl
      simp only [Q7]
      by_cases hi:i<d.1.length
      · rw [h0,A0 (show (i:Int)<(d.1.length:Int) by omega),A0 (show (0:Int)≤(i:Int) by omega)]
        simp only [cond_true]
        rw [A6w _ (A6O h hi)]
        simp only [A3]
        rw [A3M hi]
        have hdrop:d.1.drop i=d.1[i]::d.1.drop (i+1):=List.drop_eq_getElem_cons hi
        rw [hdrop] at h3
        rw [C8z] at h3
        simp only [A94] at h3
        obtain ⟨g,hg⟩:∃ g,F7 d.1[i]=g:=⟨_,rfl⟩
        rw [hg] at h3 ⊢
        cases hk:g.2.1 with
        | false=>
          rw [hk] at h3
          simp only [Bool.false_and,cond_false,List.append_nil] at h3
          exact .inr ⟨_,rfl,by rw [h3]⟩
        | true=>
          rw [hk] at h3
          simp only [Bool.true_and] at h3
          simp only [Bool.not_true,cond_false]
          by_cases e1:g.1.2.1=(i:Int)
          · rw [A0 e1] at h3 ⊢
            by_cases e2:g.1.1<l.1
            · rw [A0 e2] at h3 ⊢
              simp only [Bool.not_true,Bool.and_false,cond_false,List.append_nil] at h3
              exact .inr ⟨_,rfl,by rw [h3]⟩
            · rw [A4 e2] at h3 ⊢
              simp only [Bool.not_false,Bool.and_true,cond_true,Bool.true_and] at h3
              simp only [Bool.not_true,cond_false]
              rw [A0 (by simp;omega),A0 (by simp;omega),w64 (by omega) (by omega)]
              refine .inl ⟨_,rfl,⟨i+1,by simp only;omega,by omega,by simp;omega,?_⟩,by simp only;omega⟩
              simp only
              rw [h3,List.append_assoc]
              rfl
          · rw [A4 e1] at h3 ⊢
            simp only [Bool.false_and,cond_false,List.append_nil] at h3
            exact .inr ⟨_,rfl,by rw [h3]⟩
      · rw [h0,A4 (show ¬ (i:Int)<(d.1.length:Int) by omega)]
        rw [List.drop_eq_nil_of_le (by omega)] at h3
        simp only [Q9,List.append_nil] at h3
        exact .inr ⟨_,rfl,by rw [h3]⟩) (0,0,[],()) ⟨0,rfl,by omega,rfl,by simp [G2]⟩
  have e':W6 d=some z:=e
  rw [e',hz]
structure GoodS (st:A8):Prop where
  dk:A55 st.1=true
  ep:0≤st.2.1∧st.2.1≤10000
  up:S6 [] (G2 st.1.1)=some st.2.2.2
  nx:st.2.2.1=(List.length (G2 st.1.1):Int)
  le:B0H 0 (G2 st.1.1)≤st.2.1
  tl:((st.1.1.drop (G2 st.1.1).length).all fun s=>!D43 st.2.1 s)=true
theorem B0I{d:D5}(h:A55 d=true):A2T d∧d.1.length=d.2.length∧d.1.length≤200∧(∀ s∈d.1,s.size≤64)∧∀ s∈d.2,s.size≤64:=by
  simp only [A55,Bool.and_eq_true] at h
  obtain ⟨h1,h2⟩:=h
  have h1:=of_decide_eq_true h1
  have k1:∀ s∈d.1,s.size≤64:=fun s hs=>by
    obtain ⟨i,hi,rfl⟩:=List.getElem_of_mem hs
    have:=List.all_eq_true.1 h2 i (List.mem_range.2 hi)
    simp only [Bool.and_eq_true,Bool.not_eq_true',decide_eq_false_iff_not] at this
    have h3:=this.1
    rw [A3M hi] at h3
    omega
  have k2:∀ s∈d.2,s.size≤64:=fun s hs=>by
    obtain ⟨i,hi,rfl⟩:=List.getElem_of_mem hs
    have:=List.all_eq_true.1 h2 i (List.mem_range.2 (by omega))
    simp only [Bool.and_eq_true,Bool.not_eq_true',decide_eq_false_iff_not] at this
    have h3:=this.2
    rw [A3M hi] at h3
    omega
  exact ⟨⟨⟨by omega,fun s hs=>by have:=k1 s hs;omega⟩,by omega,fun s hs=>by have:=k2 s hs;omega⟩,h1.1,h1.2,k1,k2⟩
theorem D8G{d:D5}(h1:d.1.length=d.2.length)(h2:d.1.length≤200)(h3:∀ s∈d.1,s.size≤64)(h4:∀ s∈d.2,s.size≤64):A55 d=true:=by
  simp only [A55,Bool.and_eq_true]
  refine ⟨decide_eq_true ⟨h1,h2⟩,List.all_eq_true.2 fun i hi=>?_⟩
  have hi:=List.mem_range.1 hi
  rw [A3M hi,A3M (show i<d.2.length by omega)]
  have k1:=h3 _ (List.getElem_mem hi)
  have k2:=h4 _ (List.getElem_mem (show i<d.2.length by omega))
  rw [A4 (by omega),A4 (by omega)]
  rfl
theorem E1s(l:List H4)(h:0<l.length)(e:Int):(rd A7a l ((l.length:Int)-1)).1=B0H e l:=by
  induction l generalizing e with
  | nil=>simp at h
  | cons r l ih=>
    cases l with
    | nil=>rfl
    | cons r' l=>
      have h2:=ih (by simp) r.1
      simp only [B0H] at h2 ⊢
      rw [← h2]
      have e1:((r::r'::l).length:Int)-1=(((l.length+1):Nat):Int):=by simp only [List.length_cons];omega
      have e2:((r'::l).length:Int)-1=((l.length:Nat):Int):=by simp only [List.length_cons];omega
      rw [e1,e2,C9 (k:=A7a) (xs:=r::r'::l) (by simp),C9 (k:=A7a) (xs:=r'::l) (by simp)]
      rfl
theorem C4e(st:A8)(h:A5e st.1.1)(hb:∀ u∈st.2.2.2,Byt u.2.2.1):∃ b,G0 st=some (b,())∧A1C st=some (b,())∧(b=true↔GoodS st):=by
  obtain ⟨b,hs,hi,_⟩:=C8n st h
  refine ⟨b,hs,hi,?_⟩
  have hl:=h.1
  have hrg:=B3m 0 0 st.1.1
  have hll:=B1r 0 0 st.1.1
  have hfs:=A2S (G2 st.1.1) (by simp only [maxLen,G2];omega) hrg
  simp only [G0,A9f,A6z,B7W st.1 h,hfs,Q3,A3] at hs
  have hsc:Q9 0 0 st.1.1=G2 st.1.1:=rfl
  rw [hsc] at hrg hll
  cases hbd:A55 st.1 with
  | false=>
    rw [hbd] at hs
    have:b=false:=by
      simp only [Bool.not_false,cond_true] at hs
      first | (injection hs with hs;injection hs with hs;exact hs.symm) | (simp [C2] at hs;exact hs.symm)
    rw [this]
    exact ⟨fun e=>by (cases e),fun g=>by rw [g.dk] at hbd;cases hbd⟩
  | true=>
    rw [hbd] at hs
    simp only [Bool.not_true,cond_false] at hs
    by_cases he:0≤st.2.1∧st.2.1≤10000
    · rw [A0 he] at hs
      simp only [Bool.not_true,cond_false,C2] at hs
      unfold P5 at hs
      cases hf:S6 [] (G2 st.1.1) with
      | none=>
        rw [hf] at hs
        have:b=false:=by
          first | (injection hs with hs;injection hs with hs;exact hs.symm) | (simp at hs;exact hs.symm)
        rw [this]
        exact ⟨fun e=>by (cases e),fun g=>by rw [g.up] at hf;cases hf⟩
      | some us=>
        have hu:=A6y B0F hrg hf
        have hul:=hu.2.1
        rw [hf] at hs
        simp only at hs
        rw [D42 _ _ (show us.length≤maxLen by simp only [maxLen];omega)] at hs
        simp only [Bool.not_true,cond_false] at hs
        cases hsm:A0V us st.2.2.2 with
        | false=>
          rw [hsm] at hs
          have:b=false:=by
            first | (injection hs with hs;injection hs with hs;exact hs.symm) | (simp at hs;exact hs.symm)
          rw [this]
          refine ⟨fun e=>by (cases e),fun g=>?_⟩
          have:=g.up
          rw [hf] at this
          injection this with this
          rw [this,B83] at hsm
          cases hsm
        | true=>
          have heq:=E1j (fun u hu'=>(hu.2.2 u hu').2.2.2) hb hsm
          rw [hsm] at hs
          simp only [Bool.not_true,cond_false] at hs
          by_cases hn:st.2.2.1=(List.length (G2 st.1.1):Int)
          · rw [A0 hn] at hs
            simp only [Bool.not_true,cond_false] at hs
            have htail:=D44 st h (G2 st.1.1).length hll
            rw [hn] at hs
            rw [htail] at hs
            by_cases hl0:(List.length (G2 st.1.1):Int)>0
            · rw [A0 hl0,w64 (n:=(List.length (G2 st.1.1):Int)-1) (by omega) (by omega),A0 (show (0:Int)≤(List.length (G2 st.1.1):Int)-1 by omega),A0 (show (List.length (G2 st.1.1):Int)-1<(List.length (G2 st.1.1):Int) by omega),E1s (G2 st.1.1) (by omega) 0] at hs
              simp only [cond_true] at hs
              by_cases hle:B0H 0 (G2 st.1.1)>st.2.1
              · rw [A0 hle] at hs
                have:b=false:=by
                  first | (injection hs with hs;injection hs with hs;exact hs.symm) | (simp at hs;exact hs.symm)
                rw [this]
                exact ⟨fun e=>by (cases e),fun g=>by have:=g.le;omega⟩
              · rw [A4 hle] at hs
                simp only [cond_false] at hs
                have:b=((st.1.1.drop (G2 st.1.1).length).all fun s=>!D43 st.2.1 s):=by
                  first | (injection hs with hs;injection hs with hs;exact hs.symm) | (simp at hs;exact hs.symm)
                rw [this]
                exact ⟨fun e=>⟨hbd,he,by rw [hf,heq],hn,by omega,e⟩,fun g=>g.tl⟩
            · rw [A4 hl0] at hs
              simp only [cond_false] at hs
              have:b=((st.1.1.drop (G2 st.1.1).length).all fun s=>!D43 st.2.1 s):=by
                first | (injection hs with hs;injection hs with hs;exact hs.symm) | (simp at hs;exact hs.symm)
              rw [this]
              have hnil:G2 st.1.1 = []:=List.length_eq_zero_iff.1 (by omega)
              exact ⟨fun e=>⟨hbd,he,by rw [hf,heq],hn,by rw [hnil];exact he.1,e⟩,fun g=>g.tl⟩
          · rw [A4 hn] at hs
            have:b=false:=by
              first | (injection hs with hs;injection hs with hs;exact hs.symm) | (simp at hs;exact hs.symm)
            rw [this]
            exact ⟨fun e=>by (cases e),fun g=>absurd g.nx hn⟩
    · rw [A4 he] at hs
      have:b=false:=by
        first | (injection hs with hs;injection hs with hs;exact hs.symm) | (simp [C2] at hs;exact hs.symm)
      rw [this]
      exact ⟨fun e=>by (cases e),fun g=>absurd g.ep he⟩
theorem D5V{st:A8}(h:GoodS st)(hr:Ups st.2.2.2):Rt st:=by
  obtain ⟨k1,k2,k3,k4,k5⟩:=B0I h.dk
  have:=B1r 0 0 st.1.1
  have hn:=h.nx
  exact ⟨⟨h.ep.1,h.ep.2,k2,k3,by simp only [G2] at hn;omega,st.2.2.2,hr,B83 _⟩,hr,k1⟩
theorem C90{st:A8}(h:GoodS st):Ups st.2.2.2:=A6y B0F (B3m 0 0 st.1.1) h.up
theorem C4f:∀ (l l':List H4) (us:List TUp),S6 us (l++l')=(S6 us l).bind fun us'=>S6 us' l'
  | [],l',us=>rfl
  | r::l,l',us=>by
    simp only [List.cons_append,S6]
    cases N4 us r with
    | none=>rfl
    | some us'=>exact C4f l l' us'
theorem E5g(l:List H4)(r:H4)(e:Int):B0H e (l ++ [r])=r.1:=by
  induction l generalizing e with
  | nil=>rfl
  | cons x l ih=>exact ih x.1
theorem E1t{st:A8}(h:GoodS st){r:H4}(hr:C0O r)(h1:r.1=st.2.1)(h2:r.2.1=st.2.2.1)(hlt:st.2.2.1<(st.1.1.length:Int)){us:List TUp}(hf:N4 st.2.2.2 r=some us) :
    GoodS (wrote st r us)∧G2 (wrote st r us).1.1=G2 st.1.1 ++ [r]:=by
  obtain ⟨k1,k2,k3,k4,k5⟩:=B0I h.dk
  have hn:=h.nx
  generalize hL:G2 st.1.1=L at *
  have hll:L.length≤st.1.1.length:=by rw [← hL];exact B1r 0 0 st.1.1
  have hlt':L.length<st.1.1.length:=by omega
  have hto:st.2.2.1.toNat=L.length:=by omega
  have hset:st.1.1.set L.length (V4 r)=st.1.1.take L.length++V4 r::st.1.1.drop (L.length+1):=by
    rw [List.set_eq_take_append_cons_drop,if_pos hlt']
  have htake:Q9 0 0 (st.1.1.take L.length)=L:=by
    have:=E1q 0 0 st.1.1
    rw [show Q9 0 0 st.1.1=L from hL] at this
    exact this
  have hgo:A94 (B0H 0 L) L.length (V4 r)=true:=by
    simp only [A94,C8y hr,Bool.true_and]
    rw [h1,h2,A0 (by omega),A4 (by have:=h.le;rw [hL] at this;omega)]
    rfl
  have htl:=h.tl
  rw [hL] at htl
  have hscan:G2 (wrote st r us).1.1=L ++ [r]:=by
    show Q9 0 0 (st.1.1.set st.2.2.1.toNat (V4 r))=_
    rw [hto,hset,E5f _ _ _ _ (by rw [htake,List.length_take];omega),htake]
    congr 1
    have hle:(st.1.1.take L.length).length=L.length:=by rw [List.length_take];omega
    simp only [Q9,hle,Nat.zero_add,hgo,if_true,C8y hr]
    congr 1
    refine E1r _ _ _ fun s hs=>?_
    have hmem:s∈st.1.1.drop (L.length+1):=List.mem_of_mem_head? hs
    have hmem2:s∈st.1.1.drop L.length:=by
      rw [List.drop_eq_getElem_cons hlt']
      exact List.mem_cons_of_mem _ hmem
    have:=List.all_eq_true.1 htl s hmem2
    simp only [D43,Bool.not_eq_true',Bool.and_eq_false_iff,decide_eq_false_iff_not] at this
    simp only [A94,h1]
    rcases this with h3 | h3
    · rw [h3];rfl
    · rw [A0 (show (F7 s).1.1<st.2.1 by omega)]
      simp
  have hlen:(L ++ [r]).length=L.length+1:=by simp
  refine ⟨⟨?_,h.ep,?_,?_,?_,?_⟩,hscan⟩
  · refine D8G ?_ ?_ (fun s hs=>?_) k5
    · show (st.1.1.set _ _).length=_;rw [List.length_set];exact k2
    · show (st.1.1.set _ _).length≤_;rw [List.length_set];exact k3
    · rcases List.mem_or_eq_of_mem_set hs with hs | rfl
      · exact k4 s hs
      · exact E5e hr.1
  · have hup:=h.up
    rw [hL] at hup
    rw [hscan,C4f,hup]
    show S6 st.2.2.2 [r]=some us
    simp only [S6,hf]
  · rw [hscan,hlen]
    show st.2.2.1+1=_
    omega
  · rw [hscan,E5g,h1]
    exact Int.le_refl _
  · rw [hscan,hlen]
    show ((st.1.1.set st.2.2.1.toNat (V4 r)).drop (L.length+1)).all _=true
    rw [hto,List.drop_set_of_lt (by omega)]
    rw [List.drop_eq_getElem_cons hlt',List.all_cons,Bool.and_eq_true] at htl
    exact htl.2
def A7y(now sure:List ByteArray)(k:List Bool):List ByteArray:=(List.range now.length).map fun i=>bif k.getD i false then now.getD i ⟨#[]⟩ else sure.getD i ⟨#[]⟩
def C4g(d:D5)(k:List Bool):D5:=(A7y d.1 d.2 k,A7y d.1 d.2 k)
theorem C91(now sure:List ByteArray)(k:List Bool):(A7y now sure k).length=now.length:=by simp [A7y]
theorem D8H{now sure:List ByteArray}{k:List Bool}(h:now.length=sure.length){i:Nat}(hi:i<now.length):(A7y now sure k)[i]? = if k.getD i false=true then now[i]? else sure[i]?:=by
  simp only [A7y,List.getElem?_map,List.getElem?_range hi,Option.map_some]
  rw [List.getElem?_eq_getElem hi,List.getElem?_eq_getElem (show i<sure.length by omega)]
  have e1:now.getD i ⟨#[]⟩=now[i]:=by simp [List.getD,hi]
  have e2:sure.getD i ⟨#[]⟩=sure[i]'(by omega):=by simp [List.getD,show i<sure.length by omega]
  rw [e1,e2]
  by_cases hb:k.getD i false=true
  · rw [if_pos hb,hb];rfl
  · rw [if_neg hb,Bool.eq_false_iff.2 hb];rfl
def A4m{α:Type}(l x:List α)(i:Nat):List α:=l.take i++x.drop i
theorem B66{α:Type}{l x:List α}(h:l.length=x.length)(i:Nat):(A4m l x i).length=x.length:=by simp [A4m];omega
theorem B1s{α:Type}{l x:List α}(h:l.length=x.length){i:Nat}(hi:i<l.length):(A4m l x i).set i l[i]=A4m l x (i+1):=by
  have hl:(l.take i).length=i:=by rw [List.length_take];omega
  unfold A4m
  rw [List.drop_eq_getElem_cons (show i<x.length by omega)]
  have e:(l.take i++x[i]'(by omega)::x.drop (i+1)).set i l[i]=l.take i++(x[i]'(by omega)::x.drop (i+1)).set (i-(l.take i).length) l[i]:=List.set_append_right _ _ (by omega)
  rw [e,hl,Nat.sub_self,List.set_cons_zero,List.take_succ_eq_append_getElem hi,List.append_assoc]
  rfl
theorem D48{α:Type}{l x:List α}(h:l.length=x.length){i:Nat}(hi:i<l.length)(he:l[i]? = x[i]?):A4m l x i=A4m l x (i+1):=by
  unfold A4m
  rw [List.drop_eq_getElem_cons (show i<x.length by omega),List.take_succ_eq_append_getElem hi,List.append_assoc]
  rw [List.getElem?_eq_getElem hi,List.getElem?_eq_getElem (show i<x.length by omega)] at he
  injection he with he
  rw [he]
  rfl
theorem C1M{α:Type}{l x:List α}(h:l.length=x.length){i:Nat}(hi:i<x.length):(A4m l x i)[i]? = x[i]?:=by
  unfold A4m
  rw [List.getElem?_append_right (by rw [List.length_take];omega),List.length_take,Nat.min_eq_left (by omega),Nat.sub_self,List.getElem?_drop,Nat.add_zero]
theorem D49(d:D5)(k:List Bool)(hd:A55 d=true):A0J d k=some (C4g d k,()):=by
  obtain ⟨hS,hlen,h200,_,_⟩:=B0I hd
  have hml:=C91 d.1 d.2 k
  simp only [A0J,A7m,Y1 d hS,A6z,hd,bO,Bool.not_true,cond_false]
  have key:=E0 (I4 k) (fun i=>((i:Int),A4m (A7y d.1 d.2 k) d.1 i,A4m (A7y d.1 d.2 k) d.2 i,())) d.1.length (C4g d k,()) (fun i hi=>?_) ?_
  · exact key
  · have l1:=B66 (l:=A7y d.1 d.2 k) (x:=d.1) hml i
    have l2:=B66 (l:=A7y d.1 d.2 k) (x:=d.2) (by omega) i
    have g1:=C1M (l:=A7y d.1 d.2 k) (x:=d.1) hml hi
    have g2:=C1M (l:=A7y d.1 d.2 k) (x:=d.2) (by omega) (show i<d.2.length by omega)
    have hm:=D8H (k:=k) hlen hi
    have hmi:i<(A7y d.1 d.2 k).length:=by omega
    simp only [I4,l1]
    rw [A0 (show (i:Int)<(d.1.length:Int) by omega)]
    have hb:(bif decide ((i:Int)<(k.length:Int)) then bif decide (0≤(i:Int)) then bif decide ((i:Int)<(k.length:Int)) then (some ((rd .bool k (i:Int)),()):Option (Bool×Unit)) else none else none else some (false,()))=some (k.getD i false,()):=by
      by_cases hik:i<k.length
      · rw [A0 (show (i:Int)<(k.length:Int) by omega),A0 (show (0:Int)≤(i:Int) by omega)]
        simp only [cond_true]
        rw [C9 (k:=.bool) hik]
        simp [List.getD,hik]
      · rw [A4 (show ¬ (i:Int)<(k.length:Int) by omega)]
        simp [List.getD,List.getElem?_eq_none (show k.length≤i by omega)]
    rw [hb]
    simp only [cond_true,bO,l2,hlen]
    rw [A0 (show (0:Int)≤(i:Int) by omega),A0 (show (i:Int)<(d.2.length:Int) by omega),w64 (by omega) (by omega)]
    have r1:rd .str (A4m (A7y d.1 d.2 k) d.1 i) (i:Int)=d.1[i]:=by
      rw [A3M (by omega)]
      have:=g1
      rw [List.getElem?_eq_getElem (by omega),List.getElem?_eq_getElem hi] at this
      injection this
    have r2:rd .str (A4m (A7y d.1 d.2 k) d.2 i) (i:Int)=d.2[i]:=by
      rw [A3M (by omega)]
      have:=g2
      rw [List.getElem?_eq_getElem (by omega),List.getElem?_eq_getElem (show i<d.2.length by omega)] at this
      injection this
    rw [r1,r2,Int.toNat_natCast]
    rw [List.getElem?_eq_getElem hmi,List.getElem?_eq_getElem hi,List.getElem?_eq_getElem (show i<d.2.length by omega)] at hm
    cases hkb:k.getD i false with
    | true=>
      rw [hkb,if_pos rfl] at hm
      injection hm with hm
      simp only [cond_true]
      rw [← hm,B1s (by omega) hmi,D48 (l:=A7y d.1 d.2 k) (x:=d.1) hml hmi (by rw [List.getElem?_eq_getElem hmi,List.getElem?_eq_getElem hi,hm])]
      rfl
    | false=>
      rw [hkb,if_neg (by simp)] at hm
      injection hm with hm
      simp only [cond_true,cond_false]
      rw [← hm,B1s hml hmi,D48 (l:=A7y d.1 d.2 k) (x:=d.2) (by omega) hmi (by rw [List.getElem?_eq_getElem hmi,List.getElem?_eq_getElem (show i<d.2.length by omega),hm])]
      rfl
  · have e1:A4m (A7y d.1 d.2 k) d.1 d.1.length=A7y d.1 d.2 k:=by unfold A4m;rw [List.drop_length,List.append_nil,List.take_of_length_le (by omega)]
    have e2:A4m (A7y d.1 d.2 k) d.2 d.1.length=A7y d.1 d.2 k:=by unfold A4m;rw [hlen,List.drop_length,List.append_nil,List.take_of_length_le (by omega)]
    simp only [I4,e1,e2]
    rw [A4 (by omega)]
    rfl
theorem E5h(d:D5)(k:List Bool)(hd:A55 d=true):A1t d k=some (C4g d k,()):=by
  obtain ⟨d',h1,h2,_⟩:=E9V d k (B0I hd).1
  rw [D49 d k hd] at h1
  rw [h2,← h1]
theorem E5i(last:Int)(j:Nat)(l:List ByteArray)(i:Nat)(hi:i<(Q9 last j l).length):∃ s,l[i]? = some s∧F7 s=((Q9 last j l)[i],true,()):=by
  induction l generalizing last j i with
  | nil=>simp [Q9] at hi
  | cons s l ih=>
    have e:=C8z last j s l
    cases hg:A94 last j s with
    | false=>rw [hg] at e;rw [e] at hi;simp at hi
    | true=>
      rw [hg] at e
      simp only [cond_true] at e
      cases i with
      | zero=>
        refine ⟨s,rfl,?_⟩
        simp only [A94,Bool.and_eq_true] at hg
        have h0:(Q9 last j (s::l))[0]=(F7 s).1:=by simp only [e];rfl
        rw [h0]
        have:=hg.1.1
        generalize F7 s=g at this
        obtain ⟨a,b,u⟩:=g
        simp only at this
        rw [this]
      | succ i=>
        have hi2:i<(Q9 (F7 s).1.1 (j+1) l).length:=by rw [e] at hi;simpa using hi
        obtain ⟨s',h1,h2⟩:=ih _ _ i hi2
        refine ⟨s',h1,?_⟩
        rw [h2]
        congr 1
        simp only [e,List.getElem_cons_succ]
structure Dur (st:A8) (c:Nat):Prop where
  g:GoodS st
  le:c≤(G2 st.1.1).length
  out:∀ i,¬ (c≤i∧i<(G2 st.1.1).length)→st.1.2[i]? = st.1.1[i]?
  inn:∀ i s,c≤i→i<(G2 st.1.1).length→st.1.2[i]? = some s→D43 st.2.1 s=false
  ep:∀ i (h:i<(G2 st.1.1).length),c≤i→(G2 st.1.1)[i].1=st.2.1
  sc:G2 st.1.2=(G2 st.1.1).take c
theorem E1u{L:List H4}{e:Int}{j:Nat}(h0:0<j)(hj:j≤L.length):B0H e (L.take j)=(L[j-1]'(by omega)).1:=by
  induction L generalizing e j with
  | nil=>simp at hj;omega
  | cons r L ih=>
    cases j with
    | zero=>omega
    | succ j=>
      simp only [List.take_succ_cons,B0H]
      cases j with
      | zero=>simp [B0H]
      | succ j=>
        rw [ih (by omega) (by simpa using hj)]
        simp
theorem E9b{now sure:List ByteArray}{k:List Bool}(h:now.length=sure.length){s:ByteArray}(hs:s∈A7y now sure k):s∈now∨s∈sure:=by
  obtain ⟨i,hi,rfl⟩:=List.getElem_of_mem hs
  have hi':i<now.length:=by rw [C91] at hi;exact hi
  have:=D8H (k:=k) h hi'
  rw [List.getElem?_eq_getElem hi] at this
  split at this
  · exact .inl (List.mem_of_getElem? this.symm)
  · exact .inr (List.mem_of_getElem? this.symm)
def D5W(x:List ByteArray)(us:List TUp):A8:=((x,x),(A4l x+1,((List.length (G2 x):Int),us)))
theorem D8I{x:List ByteArray}{us:List TUp}(hd:A55 (x,x)=true)(hu:S6 [] (G2 x)=some us)(ht:A4l x+1≤10000):GoodS (D5W x us):=by
  have h0:=C7d x
  refine ⟨hd,⟨by show 0≤A4l x+1;omega,ht⟩,hu,rfl,?_,?_⟩
  · show B0H 0 (G2 x)≤A4l x+1
    have hg:∀ (i:Nat) (hi:i<(G2 x).length),∃ s,x[i]? = some s∧F7 s=((G2 x)[i],true,()):=E5i 0 0 x
    by_cases hl:0<(G2 x).length
    · have e:=E1u (L:=G2 x) (e:=0) (j:=(G2 x).length) hl (Nat.le_refl _)
      rw [List.take_length] at e
      rw [e]
      obtain ⟨s,h1,h2⟩:=hg ((G2 x).length-1) (by omega)
      have h3:=E4M (List.mem_of_getElem? h1) (by rw [h2])
      rw [h2] at h3
      have h5:((G2 x)[(G2 x).length-1]'(by omega)).1≤A4l x:=h3
      have h6:@LE.le Int _ ((G2 x)[(G2 x).length-1]'(by omega)).1 (A4l x+1):=by omega
      exact h6
    · rw [List.length_eq_zero_iff.1 (show (G2 x).length=0 by omega)]
      show (0:Int)≤_
      omega
  · refine List.all_eq_true.2 fun s hs=>?_
    have hs2:s∈x:=List.mem_of_mem_drop hs
    simp only [D43,Bool.not_eq_true',Bool.and_eq_false_iff,decide_eq_false_iff_not]
    cases hr:(F7 s).2.1 with
    | false=>exact .inl rfl
    | true=>
      have:=E4M hs2 hr
      refine .inr ?_
      show ¬ (F7 s).1.1≥A4l x+1
      omega
theorem E1v{st:A8}(h:GoodS st):Dur ((st.1.1,st.1.1),st.2) (G2 st.1.1).length:=
  ⟨⟨E5b h.dk,h.ep,h.up,h.nx,h.le,h.tl⟩,Nat.le_refl _,fun i _=>rfl,fun i s h1 h2 _=>by (have h3:i<(G2 st.1.1).length:=h2;omega),fun i h1 h2=>by (have h3:i<(G2 st.1.1).length:=h1;omega),(List.take_length).symm⟩
inductive Steps (id:ByteArray) (st:A8):A8→Prop
  | refl:Steps id st st
  | step {st1:A8} {r:H4} {us:List TUp}:Steps id st st1→C0O r→r.1=st1.2.1→r.2.1=st1.2.2.1→st1.2.2.1<(st1.1.1.length:Int)→r.2.2.2.1=id→(r.2.2.1=1→r.2.2.2.2.1≤1000000)→N4 st1.2.2.2 r=some us→Steps id st (wrote st1 r us)
theorem D8J{st:A8}{id:ByteArray}{n:Int}(h:Rt st):Steps id st (A56 st id n).1:=by
  unfold A56
  split
  · rename_i h1
    split
    · exact Steps.refl
    · rename_i h2
      split
      · exact Steps.refl
      · rename_i h3
        have hr:=B3l h.g 1 n id h1.1 (fun hx=>h3 (.inl hx)) (.inl ⟨rfl,h1.2.1,by omega⟩)
        exact .step Steps.refl ⟨hr,A22⟩ rfl rfl (by omega) rfl (fun _=>h1.2.2) (C3X h2 (fun hx=>h3 (.inr hx)))
  · exact Steps.refl
theorem D8K{st:A8}{id:ByteArray}{n:Int}(h:Rt st):Steps id st (A57 st id n).1:=by
  unfold A57
  split
  · rename_i h1
    split
    · rename_i h2
      split
      · exact Steps.refl
      · rename_i h3
        split
        · exact Steps.refl
        · split
          · exact Steps.refl
          · rename_i h5
            split
            · exact Steps.refl
            · rename_i h6
              have hr:=B3l h.g 3 0 id h1 h6 (.inr ⟨.inl rfl,rfl⟩)
              exact .step Steps.refl ⟨hr,A22⟩ rfl rfl (by omega) rfl (fun e=>by cases e) (C3Y h.up h2 h3 h5)
    · exact Steps.refl
  · exact Steps.refl
theorem D8L{st:A8}{id:ByteArray}(h:Rt st):Steps id st (A58 st id).1:=by
  unfold A58
  split
  · rename_i h1
    split
    · rename_i h2
      split
      · exact Steps.refl
      · rename_i h3
        have hr:=B3l h.g 4 0 id h1 h3 (.inr ⟨.inr rfl,rfl⟩)
        exact .step Steps.refl ⟨hr,A22⟩ rfl rfl (by omega) rfl (fun e=>by cases e) (C3Z h2)
    · exact Steps.refl
  · exact Steps.refl
theorem C4h{st:A8}{id:ByteArray}{off:Int}{dat:List Int}(hc:E1l st id off dat):∀ j,j≤nPc dat→Steps id st (putAt st id off dat j)
  | 0,_=>Steps.refl
  | j+1,hj=>by
    have hI:=B7V hc j (by omega)
    obtain ⟨hr,hf,_⟩:=C1K hc hI (by omega)
    have h1:=hc.nx.2
    have h2:=hI.nx
    have h3:=hI.len
    exact .step (C4h hc j (by omega)) ⟨hr,B1q (A6u hc.byt _) _⟩ rfl rfl (by omega) rfl (fun e=>by cases e) hf
theorem E1w{st:A8}{id:ByteArray}{off:Int}{dat:List Int}(h:Rt st)(hb:Byt dat):Steps id st (A7N st id off dat).1:=by
  unfold A7N
  split
  · rename_i h1
    split
    · rename_i h3
      split
      · exact Steps.refl
      · rename_i h4
        split
        · exact Steps.refl
        · rename_i h5
          exact C4h (C1L h hb h1.1 h1.2 h3 h4 h5) _ (Nat.le_refl _)
    · exact Steps.refl
  · exact Steps.refl
theorem C92{st:A8}(h:GoodS st):Rt st∧A7M st∧G0 st=some (true,())∧A1C st=some (true,()):=by
  have hU:=C90 h
  have hS:=B0I h.dk
  obtain ⟨b,h1,h2,h3⟩:=C4e st hS.1.1 (fun u hu=>(hU.2.2 u hu).2.2.2)
  rw [h3.2 h] at h1 h2
  exact ⟨D5V h hU,E1p hS.1 hU,h1,h2⟩
theorem E5j{x:List ByteArray}{us:List TUp}(h:GoodS (D5W x us)):E7 (x,x)=some (D5W x us,true,()):=by
  obtain ⟨hS,_,h200,_⟩:=B0I h.dk
  have hdk:A55 (x,x)=true:=h.dk
  have hl:x.length≤200:=h200
  have hll:=B1r 0 0 x
  have hfs:=A2S (G2 x) (by simp only [maxLen,G2];omega) (B3m 0 0 x)
  have hf:P5 (G2 x)=(us,true,()):=by
    unfold P5
    rw [show S6 [] (G2 x)=some us from h.up]
  have htop:=C7d x
  have hep:A4l x+1≤10000:=h.ep.2
  simp only [E7,O3,A6z,hdk,B7W (x,x) hS.1,hfs,hf,A6Q (x,x) hS.1,Y1 (x,x) hS,bO,Bool.not_true,cond_false]
  rw [w64 (n:=A4l x+1) (by omega) (by omega),A4 (show ¬ A4l x+1>10000 by omega)]
  rfl
def lenOf(st:A8)(id:ByteArray):Int:=if I1 st.2.2.2 id=true then (List.length (rd kUp st.2.2.2 (B5 st.2.2.2 id:Int)).2.2.1:Int) else 0
def A2U(st:A8)(code:Int)(id:ByteArray):N6:=
  if code=2 then (404,-1) else if code=3∨code=4 then (409,lenOf st id) else if code=5 then (507,-1) else if code=6 then (422,-1) else (400,-1)
def E1x(st:A8)(r:V2):N6:=
  if I1 st.2.2.2 r.2.1=true then (if r.1=5∧(rd kUp st.2.2.2 (B5 st.2.2.2 r.2.1:Int)).2.2.2=false then (409,lenOf st r.2.1) else (200,lenOf st r.2.1)) else (404,-1)
def C6c(st:A8)(r:V2)(dat:List Int):A8×N6:=
  if r.1=1 then ((A56 st r.2.1 r.2.2).1,if (A56 st r.2.1 r.2.2).2=0 then (201,0) else A2U st (A56 st r.2.1 r.2.2).2 r.2.1)
  else if r.1=3 then ((A7N st r.2.1 r.2.2 dat).1,if (A7N st r.2.1 r.2.2 dat).2=0 then (204,r.2.2+(dat.length:Int)) else A2U st (A7N st r.2.1 r.2.2 dat).2 r.2.1)
  else if r.1=4 then ((A57 st r.2.1 r.2.2).1,if (A57 st r.2.1 r.2.2).2=0 then (200,-1) else A2U st (A57 st r.2.1 r.2.2).2 r.2.1)
  else if r.1=6 then ((A58 st r.2.1).1,if (A58 st r.2.1).2=0 then (204,-1) else A2U st (A58 st r.2.1).2 r.2.1)
  else (st,E1x st r)
theorem C93{st:A8}{id:ByteArray}{n:Int}(h:¬ (A56 st id n).2=0):(A56 st id n).1=st:=by
  unfold A56 at h ⊢
  split
  · rename_i h1
    rw [if_pos h1] at h
    split
    · rfl
    · rename_i h2
      rw [if_neg h2] at h
      split
      · rfl
      · rename_i h3
        rw [if_neg h3] at h
        exact absurd rfl h
  · rfl
theorem D4A{st:A8}{id:ByteArray}{n:Int}{d:List Int}(h:¬ (A7N st id n d).2=0):(A7N st id n d).1=st:=by
  unfold A7N at h ⊢
  split
  · rename_i h1
    rw [if_pos h1] at h
    split
    · rename_i h2
      rw [if_pos h2] at h
      split
      · rfl
      · rename_i h3
        rw [if_neg h3] at h
        split
        · rfl
        · rename_i h4
          rw [if_neg h4] at h
          exact absurd rfl h
    · rfl
  · rfl
theorem C94{st:A8}{id:ByteArray}{n:Int}(h:¬ (A57 st id n).2=0):(A57 st id n).1=st:=by
  unfold A57 at h ⊢
  split
  · rename_i h1
    rw [if_pos h1] at h
    split
    · rename_i h2
      rw [if_pos h2] at h
      split
      · rfl
      · rename_i h3
        rw [if_neg h3] at h
        split
        · rfl
        · rename_i h4
          rw [if_neg h4] at h
          split
          · rfl
          · rename_i h5
            rw [if_neg h5] at h
            split
            · rfl
            · rename_i h6
              rw [if_neg h6] at h
              exact absurd rfl h
    · rfl
  · rfl
theorem C95{st:A8}{id:ByteArray}(h:¬ (A58 st id).2=0):(A58 st id).1=st:=by
  unfold A58 at h ⊢
  split
  · rename_i h1
    rw [if_pos h1] at h
    split
    · rename_i h2
      rw [if_pos h2] at h
      split
      · rfl
      · rename_i h4
        rw [if_neg h4] at h
        exact absurd rfl h
    · rfl
  · rfl
theorem C96{st:A8}{id:ByteArray}{off:Int}{dat:List Int}(h:Rt st)(hb:Byt dat)(h0:(A7N st id off dat).2=0):lenOf (A7N st id off dat).1 id=off+(dat.length:Int)∧off=lenOf st id∧0≤off:=by
  unfold A7N at h0 ⊢
  split at h0
  · rename_i h1
    rw [if_pos h1]
    split at h0
    · rename_i h3
      rw [if_pos h3]
      split at h0
      · simp at h0
      · rename_i h4
        rw [if_neg h4]
        split at h0
        · simp at h0
        · rename_i h5
          rw [if_neg h5]
          have hc:=C1L h hb h1.1 h1.2 h3 h4 h5
          have hI:=B7V hc _ (Nat.le_refl _)
          have hn:dat.length≤nPc dat*24:=by
            have:¬ nPc dat<nPc dat:=Nat.lt_irrefl _
            rw [B65] at this
            omega
          have hat:=hc.at'
          refine ⟨?_,?_,by omega⟩
          · unfold lenOf
            rw [if_pos hI.has,hI.val]
            simp only [List.length_append,List.take_of_length_le hn]
            omega
          · unfold lenOf
            rw [if_pos h3]
            exact hat
    · simp at h0
  · simp at h0
theorem C3a(x:C0)(n:Int)(id:ByteArray)(hU:Ups x.1.2.2.2):M2 x n id=some ((n,lenOf x.1 id),x,()):=by
  have hul:=hU.2.1
  simp only [M2,A7A,lenOf]
  rw [A88 x.1.2.2.2 id (by simp only [maxLen];omega)]
  cases hh:I1 x.1.2.2.2 id with
  | false=>
    simp only [Bool.false_eq_true,if_false,bO]
    rw [A0 (show (-1:Int)<0 by omega)]
    rfl
  | true=>
    simp only [if_true,bO]
    rw [A4 (show ¬ (B5 x.1.2.2.2 id:Int)<0 by omega)]
    rfl
theorem A7z(x:C0)(c:Int)(id:ByteArray)(hU:Ups x.1.2.2.2):I3 x c id=some (A2U x.1 c id,x,()):=by
  simp only [I3,A3G,C3a x 409 id hU,A2U,bO]
  by_cases h2:c=2
  · rw [A0 h2,if_pos h2];rfl
  rw [A4 h2,if_neg h2]
  by_cases h3:c=3
  · rw [A0 h3,if_pos (.inl h3)];rfl
  rw [A4 h3]
  by_cases h4:c=4
  · rw [A0 h4,if_pos (.inr h4)];rfl
  rw [A4 h4,if_neg (fun h=>h.elim h3 h4)]
  simp only [cond_false,bO]
  by_cases h5:c=5
  · rw [A0 h5,if_pos h5];rfl
  rw [A4 h5,if_neg h5]
  by_cases h6:c=6
  · rw [A0 h6,if_pos h6];rfl
  rw [A4 h6,if_neg h6]
  rfl
theorem E5k(x:C0)(r:V2)(hU:Ups x.1.2.2.2):A0P x r=some (E1x x.1 r,x,()):=by
  have hul:=hU.2.1
  simp only [A0P,A7B,C3a x _ r.2.1 hU,E1x,bO]
  rw [A88 x.1.2.2.2 r.2.1 (by simp only [maxLen];omega)]
  cases hh:I1 x.1.2.2.2 r.2.1 with
  | false=>
    simp only [Bool.false_eq_true,if_false,bO]
    rw [A0 (show (-1:Int)<0 by omega)]
    rfl
  | true=>
    simp only [if_true,bO]
    rw [A4 (show ¬ (B5 x.1.2.2.2 r.2.1:Int)<0 by omega)]
    simp only [cond_false]
    by_cases h5:r.1=5
    · rw [A0 h5]
      simp only [cond_true,bO]
      cases hd:(rd kUp x.1.2.2.2 (B5 x.1.2.2.2 r.2.1:Int)).2.2.2 with
      | true=>rw [if_neg (fun h=>by cases h.2)];rfl
      | false=>rw [if_pos ⟨h5,rfl⟩];rfl
    · rw [A4 h5,if_neg (fun h=>h5 h.1)]
      rfl
theorem D4B(st:A8)(id:ByteArray)(hU:Ups st.2.2.2):A8d st id=some (if I1 st.2.2.2 id=true then rd kUp st.2.2.2 (B5 st.2.2.2 id:Int) else (⟨#[]⟩,(0,([],false))),I1 st.2.2.2 id,()):=by
  simp only [A8d,C8O]
  rw [C1J st.2.2.2 id hU]
  cases hh:I1 st.2.2.2 id with
  | false=>
    simp only [Bool.false_eq_true,if_false,bO]
    rw [A0 (show (-1:Int)<0 by omega)]
    rfl
  | true=>
    obtain ⟨hlt,hid2⟩:=K9.1 hh
    have hdl:=B3i hU _ (List.getElem_mem hlt)
    rw [← C9 (k:=kUp) hlt] at hdl
    simp only [if_true,bO]
    rw [A4 (show ¬ (B5 st.2.2.2 id:Int)<0 by omega),A0 (show (0:Int)≤(B5 st.2.2.2 id:Int) by omega),A0 (show (B5 st.2.2.2 id:Int)<(st.2.2.2.length:Int) by omega),A0 (by simp;omega),A0 (by simp;omega)]
    simp only [cond_true,cond_false,List.nil_append]
theorem C1N(st:A8)(id:ByteArray)(c:Int)(hU:Ups st.2.2.2):A8e st id c=some (A2U st c id,()):=by
  have hlo:(List.length (if I1 st.2.2.2 id=true then rd kUp st.2.2.2 (B5 st.2.2.2 id:Int) else ((⟨#[]⟩,(0,([],false))):TUp)).2.2.1:Int)=lenOf st id:=by
    unfold lenOf;split<;>rfl
  simp only [A8e,C04,D4B st id hU,A2U,bO,hlo]
  by_cases h2:c=2
  · rw [A0 h2,if_pos h2];rfl
  rw [A4 h2,if_neg h2]
  by_cases h3:c=3
  · rw [A0 h3,if_pos (.inl h3)];rfl
  rw [A4 h3]
  by_cases h4:c=4
  · rw [A0 h4,if_pos (.inr h4)];rfl
  rw [A4 h4,if_neg (fun h=>h.elim h3 h4)]
  simp only [cond_false,bO]
  by_cases h5:c=5
  · rw [A0 h5,if_pos h5];rfl
  rw [A4 h5,if_neg h5]
  by_cases h6:c=6
  · rw [A0 h6,if_pos h6];rfl
  rw [A4 h6,if_neg h6]
  rfl
theorem E1y(st:A8)(r:V2)(hU:Ups st.2.2.2):A4M st r=some (E1x st r,()):=by
  simp only [A4M,B3D,D4B st r.2.1 hU,E1x,lenOf,bO]
  cases hh:I1 st.2.2.2 r.2.1 with
  | false=>rfl
  | true=>
    simp only [if_true,Bool.not_true,cond_false]
    by_cases h5:r.1=5
    · rw [A0 h5]
      cases hd:(rd kUp st.2.2.2 (B5 st.2.2.2 r.2.1:Int)).2.2.2 with
      | true=>rw [if_neg (fun h=>by cases h.2)];rfl
      | false=>rw [if_pos ⟨h5,rfl⟩];rfl
    · rw [A4 h5,if_neg (fun h=>h5 h.1)]
      rfl
theorem D8M(x:C0)(r:V2)(dat:List Int)(hid:r.2.1.size≤maxLen)(h:Rt x.1)(hb:Byt dat)(hd:dat.length≤1048576)(ho:-9223372036854775808≤r.2.2∧r.2.2≤9223372036854775807) :
    W4 x r dat=some ((C6c x.1 r dat).2,((C6c x.1 r dat).1,x.2),()):=by
  have hU:=h.up
  simp only [W4,A47,C6c]
  by_cases h1:r.1=1
  · rw [A0 h1,if_pos h1,D87 x.1 r.2.1 r.2.2 hid h]
    simp only [cond_true,bO,C2]
    by_cases hz:(A56 x.1 r.2.1 r.2.2).2=0
    · rw [A0 hz,if_pos hz];rfl
    · rw [A4 hz,if_neg hz,C93 hz]
      simp only [Bool.not_false,cond_true]
      have e:=A7z x (A56 x.1 r.2.1 r.2.2).2 r.2.1 hU
      have e':I3 (((x.1.1.1,x.1.1.2),(x.1.2.1,(x.1.2.2.1,x.1.2.2.2))),x.2) (A56 x.1 r.2.1 r.2.2).2 r.2.1=_:=e
      rw [e']
      rfl
  rw [A4 h1,if_neg h1]
  by_cases h3:r.1=3
  · rw [A0 h3,if_pos h3,E1n x.1 r.2.1 r.2.2 dat hid h hb hd ho]
    simp only [cond_true,cond_false,bO]
    have hU2:=(D86 (id:=r.2.1) (off:=r.2.2) (dat:=dat) h hb).1
    rw [C3a ((A7N x.1 r.2.1 r.2.2 dat).1,x.2) 204 r.2.1 hU2]
    simp only [bO,C2]
    by_cases hz:(A7N x.1 r.2.1 r.2.2 dat).2=0
    · rw [A0 hz,if_pos hz,(C96 h hb hz).1];rfl
    · rw [A4 hz,if_neg hz,D4A hz]
      simp only [Bool.not_false,cond_true]
      have e:=A7z x (A7N x.1 r.2.1 r.2.2 dat).2 r.2.1 hU
      have e':I3 (((x.1.1.1,x.1.1.2),(x.1.2.1,(x.1.2.2.1,x.1.2.2.2))),x.2) (A7N x.1 r.2.1 r.2.2 dat).2 r.2.1=_:=e
      rw [e']
      rfl
  rw [A4 h3,if_neg h3]
  by_cases h4:r.1=4
  · rw [A0 h4,if_pos h4,D89 x.1 r.2.1 r.2.2 hid h]
    simp only [cond_true,cond_false,bO,C2]
    by_cases hz:(A57 x.1 r.2.1 r.2.2).2=0
    · rw [A0 hz,if_pos hz];rfl
    · rw [A4 hz,if_neg hz,C94 hz]
      simp only [Bool.not_false,cond_true]
      have e:=A7z x (A57 x.1 r.2.1 r.2.2).2 r.2.1 hU
      have e':I3 (((x.1.1.1,x.1.1.2),(x.1.2.1,(x.1.2.2.1,x.1.2.2.2))),x.2) (A57 x.1 r.2.1 r.2.2).2 r.2.1=_:=e
      rw [e']
      rfl
  rw [A4 h4,if_neg h4]
  by_cases h6:r.1=6
  · rw [A0 h6,if_pos h6,D8B x.1 r.2.1 hid h]
    simp only [cond_true,cond_false,bO,C2]
    by_cases hz:(A58 x.1 r.2.1).2=0
    · rw [A0 hz,if_pos hz];rfl
    · rw [A4 hz,if_neg hz,C95 hz]
      simp only [Bool.not_false,cond_true]
      have e:=A7z x (A58 x.1 r.2.1).2 r.2.1 hU
      have e':I3 (((x.1.1.1,x.1.1.2),(x.1.2.1,(x.1.2.2.1,x.1.2.2.2))),x.2) (A58 x.1 r.2.1).2 r.2.1=_:=e
      rw [e']
      rfl
  rw [A4 h6,if_neg h6,E5k x r hU]
  rfl
theorem E5l(st:A8)(r:V2)(dat:List Int)(hid:r.2.1.size≤maxLen)(h:Rt st)(hS:A7M st)(hok:G0 st=some (true,()))(hb:Byt dat)(hd:dat.length≤1048576)(ho:-9223372036854775808≤r.2.2∧r.2.2≤9223372036854775807) :
    X0 st r dat=some ((C6c st r dat).1,(C6c st r dat).2,()):=by
  have hU:=h.up
  simp only [X0,A4d,C6c]
  by_cases h1:r.1=1
  · rw [A0 h1,if_pos h1,D88 st r.2.1 r.2.2 hid h hS hok]
    simp only [cond_true,bO,C2]
    by_cases hz:(A56 st r.2.1 r.2.2).2=0
    · rw [A0 hz,if_pos hz];rfl
    · rw [A4 hz,if_neg hz,C93 hz]
      simp only [Bool.not_false,cond_true,C1N st r.2.1 _ hU,bO]
  rw [A4 h1,if_neg h1]
  by_cases h3:r.1=3
  · rw [A0 h3,if_pos h3,E1o st r.2.1 r.2.2 dat hid h hS hok hb hd ho]
    simp only [cond_true,cond_false,bO,C2]
    by_cases hz:(A7N st r.2.1 r.2.2 dat).2=0
    · rw [A0 hz,if_pos hz]
      have hl:=C96 h hb hz
      have hlo:lenOf st r.2.1≤2000000000:=by
        unfold lenOf
        split
        · rename_i hh
          obtain ⟨hlt,_⟩:=K9.1 hh
          have hdl:=B3i hU _ (List.getElem_mem hlt)
          rw [← C9 (k:=kUp) hlt] at hdl
          omega
        · omega
      rw [w64 (by omega) (by omega)]
      rfl
    · rw [A4 hz,if_neg hz,D4A hz]
      simp only [Bool.not_false,cond_true,C1N st r.2.1 _ hU,bO]
  rw [A4 h3,if_neg h3]
  by_cases h4:r.1=4
  · rw [A0 h4,if_pos h4,D8A st r.2.1 r.2.2 hid h hS hok]
    simp only [cond_true,cond_false,bO,C2]
    by_cases hz:(A57 st r.2.1 r.2.2).2=0
    · rw [A0 hz,if_pos hz];rfl
    · rw [A4 hz,if_neg hz,C94 hz]
      simp only [Bool.not_false,cond_true,C1N st r.2.1 _ hU,bO]
  rw [A4 h4,if_neg h4]
  by_cases h6:r.1=6
  · rw [A0 h6,if_pos h6,D8C st r.2.1 hid h hS hok]
    simp only [cond_true,cond_false,bO,C2]
    by_cases hz:(A58 st r.2.1).2=0
    · rw [A0 hz,if_pos hz];rfl
    · rw [A4 hz,if_neg hz,C95 hz]
      simp only [Bool.not_false,cond_true,C1N st r.2.1 _ hU,bO]
  rw [A4 h6,if_neg h6,E1y st r hU]
  rfl
def U4(c:O8):O8:=if I9 c&&!B0A c then (c.1,c.2.1,2,c.2.2.2) else c
theorem C4i(c:O8)(h:c.1.size≤maxLen)(h2:c.2.1.length≤140737488355328):A1M c=some (U4 c,()):=by
  simp only [A1M,C06,pe,C8Y _ h2,A6M _ h,C8X,A3,U4]
  cases I9 c<;>cases B0A c<;>simp
theorem D8N(c:O8)(h:c.1.size≤maxLen)(h2:c.2.1.length≤140737488355328):A8Y c=some (U4 c,()):=by
  simp only [A8Y,B9x,pe,B1F _ h2,A6N _ h,C3P,A3,U4]
  cases I9 c<;>cases B0A c<;>simp
theorem E83{w:A7}(h:Sm 1048576 Y5 w):F11 w:=
  ⟨D5R (Nat.le_refl _) (Sm.l (Sm.l (Sm.l (Sm.l h)))),(Sm.r (Sm.l h)).1,⟨(Sm.l (Sm.r h)).1,fun c hc=>by
    have h1:Sm 1048576 B1 c:=(Sm.l (Sm.r h)).2 c hc
    have h2:c.1.size≤1048576:=Sm.l h1
    simp only [maxLen];omega⟩,⟨(Sm.l (Sm.r (Sm.r (Sm.r h)))).1,fun a ha=>by
    have h1:Sm 1048576 B7 a:=(Sm.l (Sm.r (Sm.r (Sm.r h)))).2 a ha
    have h2:a.2.1.2.1.size≤1048576:=Sm.l (Sm.r (Sm.l (Sm.r h1)))
    simp only [maxLen];omega⟩,(Sm.l (Sm.r (Sm.r (Sm.r (Sm.r h))))).1⟩
theorem E1z{s:C0}(h:D46 s):B7S s≤4000000000000000:=by
  have h1:=h.1.1.1.1
  have h2:=h.1.1.2.1
  have h3:=h.1.2.1
  have h4:=h.2
  have c1:=B0G (fun u:TUp=>List.length u.2.2.1+3) 2000000003 s.1.2.2.2 (fun u hu=>by have:=h.1.2.2 u hu;omega)
  have c2:=B0G (fun _:B9=>3) 3 s.2 (fun u hu=>Nat.le_refl _)
  have c3:s.1.2.2.2.length*2000000003≤1048576*2000000003:=Nat.mul_le_mul_right _ h3
  unfold B7S C8r E4J
  omega
abbrev E4O:K:=(.pair .str (.pair (.rs 5 (.int .u8)) E9))
abbrev E4P:K:=(.pair (.int .i64) (.pair L5 (.rs 5 (.int .u8))))
theorem A59(k:K){xs:List k.T}{i:Nat}{x:k.T}(h:xs[i]? = some x):rd k xs (i:Int)=x:=by
  obtain ⟨hi,e⟩:=List.getElem?_eq_some_iff.1 h
  rw [C9 (k:=k) hi,e]
def rm{α:Type}(l:List α)(j:Nat):List α:=l.take j++l.drop (j+1)
theorem E20{α:Type}{l:List α}{j:Nat}{x:α}(h:x∈rm l j):x∈l:=(List.mem_append.1 h).elim List.mem_of_mem_take List.mem_of_mem_drop
theorem E84{α:Type}{l:List α}{j:Nat}(h:j<l.length):(rm l j).length+1=l.length:=by
  simp only [rm,List.length_append,List.length_take,List.length_drop]
  omega
theorem D4C(l:List B9)(i:Int)(hl:l.length≤1048576):A2D l i=some (l.filter (fun x=>!decide (x.1=i)),()):=by
  simp only [A2D,B0r]
  refine E0 (A2w l i) (fun j=>((j:Int),(l.take j).filter (fun x=>!decide (x.1=i)),())) l.length (l.filter (fun x=>!decide (x.1=i)),()) (fun j hj=>?_) ?_
  · have h1:((j:Int)<(l.length:Int)):=by omega
    have h2:(0:Int)≤(j:Int):=by omega
    have hlen:=List.length_filter_le (fun x:B9=>!decide (x.1=i)) (l.take j)
    rw [List.length_take] at hlen
    simp only [A2w,A0 h1,A0 h2,cond_true]
    rw [A59 A9 (List.getElem?_eq_getElem hj),w64 (by omega) (by omega),List.take_succ_eq_append_getElem hj,List.filter_append]
    by_cases e:l[j].1=i
    · rw [A0 e]
      simp only [Bool.not_true,cond_false]
      have:([l[j]].filter fun x=>!decide (x.1=i)) = []:=by simp [e]
      rw [this,List.append_nil]
      rfl
    · rw [A4 e]
      simp only [Bool.not_false,cond_true]
      rw [A0 (by simp;omega),A0 (by simp;omega)]
      have:([l[j]].filter fun x=>!decide (x.1=i)) = [l[j]]:=by simp [e]
      rw [this]
      rfl
  · simp only [A2w,List.take_length]
    rw [A4 (by omega)]
    rfl
theorem E21(w:A7)(i:Int)(hl:w.2.2.2.1.length≤1048576):B8 (A1W w i) (0,[],())=some (w.2.2.2.1.filter (fun x=>!decide (x.1=i)),()):=by
  refine E0 (A1W w i) (fun j=>((j:Int),(w.2.2.2.1.take j).filter (fun x=>!decide (x.1=i)),())) w.2.2.2.1.length (w.2.2.2.1.filter (fun x=>!decide (x.1=i)),()) (fun j hj=>?_) ?_
  · have h1:((j:Int)<(w.2.2.2.1.length:Int)):=by omega
    have h2:(0:Int)≤(j:Int):=by omega
    have hlen:=List.length_filter_le (fun x:D8=>!decide (x.1=i)) (w.2.2.2.1.take j)
    rw [List.length_take] at hlen
    simp only [A1W,A0 h1,A0 h2,cond_true]
    rw [A59 E4P (List.getElem?_eq_getElem hj),w64 (by omega) (by omega),List.take_succ_eq_append_getElem hj,List.filter_append]
    by_cases e:w.2.2.2.1[j].1=i
    · rw [A0 e]
      simp only [Bool.not_true,cond_false]
      have:([w.2.2.2.1[j]].filter fun x=>!decide (x.1=i)) = []:=by simp [e]
      rw [this,List.append_nil]
      rfl
    · rw [A4 e]
      simp only [Bool.not_false,cond_true]
      rw [A0 (by simp;omega),A0 (by simp;omega)]
      have:([w.2.2.2.1[j]].filter fun x=>!decide (x.1=i)) = [w.2.2.2.1[j]]:=by simp [e]
      rw [this]
      rfl
  · simp only [A1W,List.take_length]
    rw [A4 (by omega)]
    rfl
theorem F0c{α:Type}{l:List α}{i:Nat}{x:α}(h:l[i]? = some x):i<l.length:=(List.getElem?_eq_some_iff.1 h).1
def hOk(n:Nat)(h:B9):Prop:=X2 h.2=true∧0≤h.1∧h.1<(n:Int)
def wOk(n:Nat)(a:D8):Prop:=A3N a.2.1=true∧0≤a.1∧a.1<(n:Int)∧Byt a.2.2∧a.2.2.length≤1048576
def cOk(c:B2):Prop:=I9 c=true∧Byt c.2.1
structure RW (st:A8) (held:List B9) (cls:List B2) (busy:List Bool) (asks:List D8) (tells:List B9) (best:List Int):Prop where
  g:GoodS st
  lh:held.length≤200
  hd:∀ h∈held,hOk cls.length h
  n6:cls.length≤6
  lb:busy.length=cls.length
  lt:best.length=cls.length
  cl:∀ c∈cls,cOk c
  la:asks.length≤60
  ask:∀ a∈asks,wOk cls.length a
  l6:tells.length≤60
  tl:∀ h∈tells,hOk cls.length h
def RWw(w:A7):Prop:=RW w.1.1 w.1.2 w.2.1 w.2.2.1 w.2.2.2.1 w.2.2.2.2.1 w.2.2.2.2.2
theorem B3n{id:ByteArray}{st st':A8}(hs:Steps id st st')(h:GoodS st):GoodS st':=by
  induction hs with
  | refl=>exact h
  | step h1 hr e1 e2 hlt hid _ hf ih=>exact (E1t ih hr e1 e2 hlt hf).1
theorem E5m{st:A8}{r:V2}{dat:List Int}(h:GoodS st)(hb:Byt dat):GoodS (C6c st r dat).1:=by
  have hR:=D5V h (C90 h)
  unfold C6c
  split
  · exact B3n (D8J hR) h
  · split
    · exact B3n (E1w hR hb) h
    · split
      · exact B3n (D8K hR) h
      · split
        · exact B3n (D8L hR) h
        · exact h
theorem C3b{st:A8}(h:Ups st.2.2.2)(id:ByteArray):0≤lenOf st id∧lenOf st id≤1000000000:=by
  unfold lenOf
  split
  · rename_i hh
    obtain ⟨hlt,_⟩:=K9.1 hh
    have hg:=h.2.2 _ (List.getElem_mem hlt)
    rw [C9 (k:=kUp) hlt]
    have h1:=hg.1
    have h2:=hg.2.1
    omega
  · omega
theorem B7X{s o:Int}(h1:100≤s)(h2:s≤599)(h3:-1≤o)(h4:o≤1000000000):X2 (s,o)=true:=by
  simp only [X2,Bool.and_eq_true,decide_eq_true_eq]
  omega
theorem B0J{st:A8}(h:Ups st.2.2.2)(c:Int)(id:ByteArray):X2 (A2U st c id)=true:=by
  have hl:=C3b h id
  unfold A2U
  repeat' split
  all_goals exact B7X (by omega) (by omega) (by omega) (by omega)
theorem E9c{st:A8}(h:Ups st.2.2.2)(r:V2):X2 (E1x st r)=true:=by
  have hl:=C3b h r.2.1
  unfold E1x
  repeat' split
  all_goals exact B7X (by omega) (by omega) (by omega) (by omega)
theorem E5n{st:A8}{r:V2}{dat:List Int}(h:GoodS st)(hb:Byt dat):X2 (C6c st r dat).2=true:=by
  have hU:=C90 h
  have hR:=D5V h hU
  unfold C6c
  split
  · simp only
    split
    · exact B7X (by omega) (by omega) (by omega) (by omega)
    · exact B0J hU _ _
  · split
    · simp only
      split
      · rename_i hz
        obtain ⟨q1,q2,q3⟩:=C96 hR hb hz
        have hl:=C3b (D86 (id:=r.2.1) (off:=r.2.2) (dat:=dat) hR hb).1 r.2.1
        exact B7X (by omega) (by omega) (by omega) (by omega)
      · exact B0J hU _ _
    · split
      · simp only
        split
        · exact B7X (by omega) (by omega) (by omega) (by omega)
        · exact B0J hU _ _
      · split
        · simp only
          split
          · exact B7X (by omega) (by omega) (by omega) (by omega)
          · exact B0J hU _ _
        · exact E9c hU r
theorem D4D(x:List ByteArray)(hd:A55 (x,x)=true):∃ st b,E7 (x,x)=some (st,b,())∧X9 (x,x)=some (st,b,())∧(b=true→GoodS st):=by
  obtain ⟨hS,_,h200,_⟩:=B0I hd
  have hl:x.length≤200:=h200
  obtain ⟨st,b,o1,o2,o3,o4⟩:=E9W (x,x) hS
  refine ⟨st,b,o1,o2,fun hb=>?_⟩
  subst hb
  have hll:=B1r 0 0 x
  have hfs:=A2S (G2 x) (by simp only [maxLen,G2];omega) (B3m 0 0 x)
  have htop:=C7d x
  cases hf:S6 [] (G2 x) with
  | none=>
    have hf':P5 (G2 x)=([],false,()):=by unfold P5;rw [hf]
    simp only [E7,O3,A6z,hd,B7W (x,x) hS.1,hfs,hf',A6Q (x,x) hS.1,Y1 (x,x) hS,bO,Bool.not_true,Bool.not_false,cond_false,cond_true] at o1
    injection o1 with o1;injection o1 with _ o1;injection o1 with o1;cases o1
  | some us=>
    by_cases hep:A4l x+1≤10000
    · have hg:=D8I hd hf hep
      rw [E5j hg] at o1
      injection o1 with o1;injection o1 with o1
      rw [← o1];exact hg
    · have hf':P5 (G2 x)=(us,true,()):=by unfold P5;rw [hf]
      simp only [E7,O3,A6z,hd,B7W (x,x) hS.1,hfs,hf',A6Q (x,x) hS.1,Y1 (x,x) hS,bO,Bool.not_true,Bool.not_false,cond_false,cond_true] at o1
      rw [w64 (n:=A4l x+1) (by omega) (by omega),A0 (show A4l x+1>10000 by omega)] at o1
      injection o1 with o1;injection o1 with _ o1;injection o1 with o1;cases o1
theorem D8O{d:D5}(h:A55 d=true)(k:List Bool):A55 (C4g d k)=true:=by
  obtain ⟨_,h1,h2,h3,h4⟩:=B0I h
  have hm:∀ s∈A7y d.1 d.2 k,s.size≤64:=fun s hs=>(E9b h1 hs).elim (h3 s) (h4 s)
  exact D8G rfl (by show (A7y d.1 d.2 k).length≤_;rw [C91];exact h2) hm hm
theorem E22{st:A8}(h:GoodS st):GoodS ((st.1.1,st.1.1),st.2):=(E1v h).g
theorem Z8{c:B2}(h:cOk c):c.1.size≤8∧c.2.1.length≤400∧idB c.1=true∧1≤c.2.2.1∧c.2.2.1≤6∧0≤c.2.2.2∧c.2.2.2≤(c.2.1.length:Int):=by
  have h1:=h.1
  simp only [I9,Bool.and_eq_true,decide_eq_true_eq] at h1
  have:=D84 h1.1.1.1
  refine ⟨this,by omega,h1.1.1.1,?_⟩
  omega
theorem B1t{c:B2}(h:cOk c):c.1.size≤maxLen:=by
  have:=(Z8 h).1
  simp only [maxLen];omega
theorem C97{c:B2}(h:cOk c){s o:Int}(h1:1≤s)(h2:s≤6)(h3:0≤o)(h4:o≤(c.2.1.length:Int)):cOk (c.1,c.2.1,s,o):=by
  obtain ⟨_,g2,g3,_⟩:=Z8 h
  refine ⟨?_,h.2⟩
  simp only [I9,Bool.and_eq_true,decide_eq_true_eq]
  exact ⟨⟨⟨g3,by omega⟩,by omega⟩,by omega⟩
theorem C98{c:B2}(h:cOk c):cOk (U4 c):=by
  obtain ⟨_,_,_,_,_,h3,h4⟩:=Z8 h
  unfold U4
  split
  · exact C97 h (by omega) (by omega) h3 h4
  · exact h
theorem E9d{c:B2}(h:cOk c)(o:Int):cOk (far c o):=by
  obtain ⟨_,_,_,_,_,h3,h4⟩:=Z8 h
  unfold far
  split
  · rename_i hr
    split
    · exact C97 h (by omega) (by omega) hr.1 hr.2
    · exact C97 h (by omega) (by omega) hr.1 hr.2
  · exact C97 h (by omega) (by omega) h3 h4
theorem D5X(s t:Int)(h1:1≤s)(h2:s≤6):0≤A4i s t∧A4i s t≤6:=by
  unfold A4i
  repeat' split
  all_goals omega
theorem E85{c:B2}(h:cOk c)(r:N6):cOk (hear c r):=by
  obtain ⟨_,_,_,h1,h2,h3,h4⟩:=Z8 h
  unfold hear
  split
  · exact E9d h _
  · rename_i hne
    have:=D5X c.2.2.1 r.1 h1 h2
    exact C97 h (by omega) (by omega) h3 h4
theorem E86{r:V2}(h:A3N r=true):r.2.1.size≤8∧(0≤r.2.2∧r.2.2≤4294967295):=by
  simp only [A3N,Bool.and_eq_true,decide_eq_true_eq] at h
  refine ⟨D84 h.1.2,h.2.1,?_⟩
  have:=h.2.2
  unfold C1G at this
  split at this
  · omega
  · split at this
    · omega
    · split at this
      · omega
      · omega
theorem E23{c:B2}(h:cOk c){r:V2}{d:List Int}(hq:X1 c=(r,d,true,())):A3N r=true∧Byt d∧d.length≤1048576:=by
  obtain ⟨_,h400,hid,h1,h2,h3,h4⟩:=Z8 h
  have hl:=D7n c
  rw [hq] at hl
  have hl':d.length≤c.2.1.length:=hl
  have hcrc:=B7Q h.2
  have hx:B1G c.2.1 ^^^ 4294967295<2 ^ 32:=Nat.xor_lt_two_pow hcrc (by omega)
  have mk:∀ (op n:Int),1≤op→op≤6→0≤n→n≤C1G op→A3N (op,c.1,n)=true:=fun op n g1 g2 g3 g4=>by
    simp only [A3N,Bool.and_eq_true,decide_eq_true_eq]
    exact ⟨⟨by omega,hid⟩,by omega⟩
  have key:(X1 c).2.2.1=true→A3N (X1 c).1=true∧Byt (X1 c).2.1:=by
    unfold X1
    rw [h.1]
    simp only [Bool.true_eq_false,if_false]
    split
    · exact fun _=>⟨mk 1 _ (by omega) (by omega) (by omega) (by show _≤(1000000000:Int);omega),A22⟩
    · split
      · exact fun _=>⟨mk 2 _ (by omega) (by omega) (by omega) (by show _≤(0:Int);omega),A22⟩
      · split
        · exact fun _=>⟨mk 3 _ (by omega) (by omega) (by omega) (by show _≤(1000000000:Int);omega),B1q (A6u h.2 _) _⟩
        · split
          · exact fun _=>⟨mk 4 _ (by omega) (by omega) (by omega) (by show _≤(4294967295:Int);omega),A22⟩
          · exact fun e=>by cases e
  rw [hq] at key
  obtain ⟨k1,k2⟩:=key rfl
  exact ⟨k1,k2,by omega⟩
theorem E9e(w:A7)(h:E5X w)(hok:U3 w=some (true,()))(i0:Nat)(hi0:i0<w.2.1.length):I9 (rd B1 w.2.1 (i0:Int))=true:=by
  cases hc:I9 (rd B1 w.2.1 (i0:Int)) with
  | true=>rfl
  | false=>
    exfalso
    have hl:=h.1
    obtain ⟨z,e,hz⟩:=A0i (I6 H3 w) (fun l=>((i0:Int)-l.1).toNat) (fun l=>0≤l.1∧l.1≤(i0:Int)) (fun z=>z=.inr (false,())) (fun l hl=>by
      obtain ⟨l1,u⟩:=l
      obtain ⟨h0,h1⟩:=hl
      simp only at h0 h1
      obtain ⟨i,rfl⟩:∃ i:Nat,l1=(i:Int):=⟨l1.toNat,by omega⟩
      have hi':i<w.2.1.length:=by omega
      have hsz:(rd B1 w.2.1 (i:Int)).1.size≤maxLen:=by
        rw [C9 (k:=B1) (xs:=w.2.1) hi']
        exact h.2 _ (List.getElem_mem hi')
      simp only [I6]
      rw [A0 (show (i:Int)<(w.2.1.length:Int) by omega),A0 h0,A6M _ hsz]
      simp only [cond_true,A3]
      by_cases hii:i=i0
      · subst hii
        rw [hc]
        exact .inr ⟨_,rfl,rfl⟩
      · cases I9 (rd B1 w.2.1 (i:Int)) with
        | false=>exact .inr ⟨_,rfl,rfl⟩
        | true=>
          obtain ⟨z,e,hz⟩:=C4c w h i hi'
          simp only [Bool.not_true,cond_false]
          rw [e]
          rcases hz with rfl | rfl
          · exact .inl ⟨_,rfl,by simp only;omega,by simp only;omega⟩
          · exact .inr ⟨_,rfl,rfl⟩) (0,()) (by simp)
    subst hz
    simp only [U3,A4K,e,C2] at hok
    injection hok with hok;injection hok with hok;cases hok
theorem C99{n:Nat}{l:List B9}(h:A1a n l=true):∀ x∈l,hOk n x:=fun x hx=>by
  obtain ⟨i,hi,rfl⟩:=List.getElem_of_mem hx
  have:=List.all_eq_true.1 h i (List.mem_range.2 hi)
  rw [C9 (k:=A9) (xs:=l) hi] at this
  simp only [D47,Bool.and_eq_true,decide_eq_true_eq] at this
  exact ⟨this.1,by omega,by omega⟩
theorem E87(w:A7)(hs:Sm 1048576 Y5 w)(hu:∀ u∈w.1.1.2.2.2,Byt u.2.2.1)(hcb:∀ c∈w.2.1,Byt c.2.1)(hab:∀ a∈w.2.2.2.1,Byt a.2.2)(hok:A01 w=some (true,())):RWw w:=by
  have hM:(1048576:Nat)≤maxLen:=by simp only [maxLen];omega
  have hWor:=E83 hs
  obtain ⟨h1,h2,h3,⟨h4,h4'⟩,h5⟩:=hWor
  have hc:=h3.1
  obtain ⟨bs,es,ei,hbs⟩:=C4b w.1 h1 h2
  obtain ⟨bc,cs,ci,hbc⟩:=C8v w h3
  have ht:=C1H w w.2.2.2.2.1 (by simp only [maxLen];omega) hc
  have hh:=C1H w w.1.2 (by simp only [maxLen];omega) hc
  have hloop:=C4X (Y0 A5X E3 w) w.2.2.2.1.length (by simp only [maxLen];omega) (fun i=>C4d w.2.1.length (rd B7 w.2.2.2.1 (i:Int))) (fun i hi=>by
    have g1:((i:Int)<(w.2.2.2.1.length:Int)):=by omega
    have g2:(0:Int)≤(i:Int):=by omega
    have hsz:(rd B7 w.2.2.2.1 (i:Int)).2.1.2.1.size≤maxLen:=by
      rw [C9 (k:=B7) (xs:=w.2.2.2.1) hi]
      exact h4' _ (List.getElem_mem hi)
    simp only [Y0,A0 g1,A0 g2,cond_true,Q3,C8t _ hsz,A3,C4d]
    rw [w64 (n:=(w.2.1.length:Int)-1) (by omega) (by omega)]
    cases decide (0≤(rd B7 w.2.2.2.1 (i:Int)).1∧(rd B7 w.2.2.2.1 (i:Int)).1≤(w.2.1.length:Int)-1)<;>cases A3N (rd B7 w.2.2.2.1 (i:Int)).2.1<;>rfl) (by simp [Y0])
  simp only [A01,A9j,es,cs,ht,hh,hloop,A3] at hok
  have no:∀ {x:Bool},some (x,())=some (true,())→x=true:=fun h=>by injection h with h;injection h
  cases bs with
  | false=>exact absurd (no hok) (by simp)
  | true=>
  cases bc with
  | false=>exact absurd (no hok) (by simp)
  | true=>
  simp only [Bool.not_true,cond_false] at hok
  by_cases ga:(w.2.2.2.1.length:Int)>60
  · rw [A0 ga] at hok;exact absurd (no hok) (by simp)
  rw [A4 ga] at hok
  simp only [cond_false] at hok
  by_cases gt:(w.2.2.2.2.1.length:Int)>60
  · rw [A0 gt] at hok;exact absurd (no hok) (by simp)
  rw [A4 gt] at hok
  simp only [cond_false] at hok
  cases e1:A1a w.2.1.length w.2.2.2.2.1 with
  | false=>rw [e1] at hok;exact absurd (no hok) (by simp)
  | true=>
  rw [e1] at hok
  simp only [Bool.not_true,cond_false] at hok
  cases e2:A1a w.2.1.length w.1.2 with
  | false=>rw [e2] at hok;exact absurd (no hok) (by simp)
  | true=>
  rw [e2] at hok
  simp only [Bool.not_true,cond_false] at hok
  have hall:=no hok
  obtain ⟨k1,k2,k3⟩:=hbs rfl
  obtain ⟨n6,n2,n3⟩:=hbc rfl
  obtain ⟨b,s1,_,s3⟩:=C4e w.1.1 h1 hu
  rw [k1] at s1
  injection s1 with s1;injection s1 with s1
  refine {g:=s3.1 s1.symm,lh:=k3,hd:=C99 e2,n6:=n6,lb:=n2,lt:=n3,cl:=fun c hx=>⟨?_,hcb c hx⟩,la:=by omega,ask:=fun a ha=>?_,l6:=by omega,tl:=C99 e1}
  · obtain ⟨i,hi,rfl⟩:=List.getElem_of_mem hx
    have:=E9e w h3 cs i hi
    rw [C9 (k:=B1) (xs:=w.2.1) hi] at this
    exact this
  · have hm:Sm 1048576 B7 a:=(Sm.l (Sm.r (Sm.r (Sm.r hs)))).2 a ha
    obtain ⟨i,hi,rfl⟩:=List.getElem_of_mem ha
    have:=List.all_eq_true.1 hall i (List.mem_range.2 hi)
    rw [C9 (k:=B7) (xs:=w.2.2.2.1) hi] at this
    simp only [C4d,Bool.and_eq_true,decide_eq_true_eq] at this
    exact ⟨this.1,by omega,by omega,hab _ (List.getElem_mem hi),(Sm.r (Sm.r hm)).1⟩
def E9f(w:A7):Prop:=Sm maxLen A23 w∧F12 w∧C8w w≤4100000000000000
theorem E4Q{st:A8}{held:List B9}{cls:List B2}{busy:List Bool}{asks:List D8}{tells:List B9}{best:List Int}(hS:A7M st)(hu:∀ u∈st.2.2.2,u.1.size≤1048576)(h1:held.length≤1048576)(h2:cls.length≤1048576)(hc:∀ c∈cls,c.1.size≤1048576∧c.2.1.length≤1048576)
    (h3:busy.length≤1048576) (h4:asks.length≤1048576) (ha:∀ a∈asks,a.2.1.2.1.size≤1048576∧a.2.2.length≤1048576) (h5:tells.length≤1048576) (h6:best.length≤1048576):E9f (((st,held),(cls,(busy,(asks,(tells,best))))):A7):=by
  have hM:(2000000000:Nat)≤maxLen:=by simp only [maxLen];omega
  have secs:∀ {l:List ByteArray},A5e l→Sm maxLen (.sl 9 .str) l:=fun h=>⟨by have:=h.1;omega,fun s hs=>by have:=h.2 s hs;show s.size≤_;omega⟩
  have sv:D46 (st,held):=⟨hS,h1⟩
  have nv:=E1z sv
  have c1:=B0G (fun u:B2=>List.length u.2.1+3) 1048579 cls (fun u hu=>by have:=(hc u hu).2;omega)
  have c2:=B0G (fun _:Bool=>1) 1 busy (fun u hu=>Nat.le_refl _)
  have c3:=B0G (fun u:D8=>List.length u.2.2+4) 1048580 asks (fun u hu=>by have:=(ha u hu).2;omega)
  have c4:=B0G (fun _:B9=>3) 3 tells (fun u hu=>Nat.le_refl _)
  have c5:=B0G (fun _:Int=>1) 1 best (fun u hu=>Nat.le_refl _)
  have e1:cls.length*1048579≤1048576*1048579:=Nat.mul_le_mul_right _ h2
  have e3:asks.length*1048580≤1048576*1048580:=Nat.mul_le_mul_right _ h4
  refine ⟨⟨⟨⟨⟨secs hS.1.1,secs hS.1.2⟩,trivial,trivial,⟨by have:=hS.2.1;show List.length st.2.2.2≤_;omega,fun u hm=>?_⟩⟩,⟨by show held.length≤_;omega,fun x _=>⟨trivial,trivial,trivial⟩⟩⟩,⟨by show cls.length≤_;omega,fun x hx=>?_⟩,⟨by show busy.length≤_;omega,fun _ _=>trivial⟩,⟨by show asks.length≤_;omega,fun x hx=>?_⟩,⟨by show tells.length≤_;omega,fun x _=>⟨trivial,trivial,trivial⟩⟩,⟨by show best.length≤_;omega,fun _ _=>trivial⟩⟩,⟨hS.2.1,h1,h2,h3,h4,h5,h6⟩,?_⟩
  · have g1:=hu u hm
    have g2:=hS.2.2 u hm
    exact ⟨by show u.1.size≤_;omega,trivial,⟨by show List.length u.2.2.1≤_;omega,fun _ _=>trivial⟩,trivial⟩
  · obtain ⟨g1,g2⟩:=hc x hx
    exact ⟨by show x.1.size≤_;omega,⟨by show x.2.1.length≤_;omega,fun _ _=>trivial⟩,trivial,trivial⟩
  · obtain ⟨g1,g2⟩:=ha x hx
    exact ⟨trivial,⟨trivial,by show x.2.1.2.1.size≤_;omega,trivial⟩,⟨by show List.length x.2.2≤_;omega,fun _ _=>trivial⟩⟩
  · simp only [C8w]
    omega
theorem F13{w:A7}(h:RWw w):E9f w:=by
  obtain ⟨⟨st,held⟩,cls,busy,asks,tells,best⟩:=w
  unfold RWw at h
  simp only at h
  obtain ⟨hR,hS,_⟩:=C92 h.g
  have hU:=hR.up
  have hn:=h.n6
  have hlb:=h.lb
  have hlt:=h.lt
  have h60:=h.la
  have h6:=h.l6
  have h200:=h.lh
  exact E4Q hS (fun u hu=>by have:=(hU.2.2 u hu).2.2.1;omega) (by omega) (by omega) (fun c hc=>by have:=Z8 (h.cl c hc);omega) (by omega) (by omega) (fun a ha=>by
    obtain ⟨g1,_,_,_,g5⟩:=h.ask a ha
    have:=(E86 g1).1
    omega) (by omega) (by omega)
theorem D5Y{w:A7}(hs:Sm 1048576 Y5 w):E9f w:=by
  obtain ⟨⟨st,held⟩,cls,busy,asks,tells,best⟩:=w
  have hS:=E4K (Nat.le_refl _) (Sm.l hs)
  have hup:Sm 1048576 (.sl 0 kUp) st.2.2.2:=Sm.r (Sm.r (Sm.r (Sm.l (Sm.l hs))))
  have hcl:Sm 1048576 (.sl 0 B1) cls:=Sm.l (Sm.r hs)
  have hbu:Sm 1048576 (.sl 0 .bool) busy:=Sm.l (Sm.r (Sm.r hs))
  have has:Sm 1048576 (.sl 0 B7) asks:=Sm.l (Sm.r (Sm.r (Sm.r hs)))
  have hte:Sm 1048576 (.sl 0 A9) tells:=Sm.l (Sm.r (Sm.r (Sm.r (Sm.r hs))))
  have hbe:Sm 1048576 (.sl 0 (.int .i64)) best:=Sm.r (Sm.r (Sm.r (Sm.r (Sm.r hs))))
  exact E4Q hS.1 (fun u hu=>Sm.l (hup.2 u hu)) hS.2 hcl.1 (fun c hc=>by
    have h1:Sm 1048576 B1 c:=hcl.2 c hc
    exact ⟨Sm.l h1,(Sm.l (Sm.r h1)).1⟩) hbu.1 has.1 (fun a ha=>by
    have h1:Sm 1048576 B7 a:=has.2 a ha
    exact ⟨Sm.l (Sm.r (Sm.l (Sm.r h1))),(Sm.r (Sm.r h1)).1⟩) hte.1 hbe.1
def C1O(w:A7)(i:Int):Bool×A7:=
  if 0≤i∧i<(w.2.1.length:Int)∧rd .bool w.2.2.1 i=false∧¬ (w.2.2.2.1.length:Int)=60∧(X1 (rd B1 w.2.1 i)).2.2.1=true then
    (true,(w.1,(w.2.1,(w.2.2.1.set i.toNat true,(w.2.2.2.1 ++ [(i,((X1 (rd B1 w.2.1 i)).1,(X1 (rd B1 w.2.1 i)).2.1))],w.2.2.2.2)))))
  else (false,w)
def B3o(w:A7)(j:Int):Bool×A7:=
  if 0≤j∧j<(w.2.2.2.1.length:Int)∧¬ (w.1.2.length:Int)=200 then
    (true,(((C6c w.1.1 (rd B7 w.2.2.2.1 j).2.1 (rd B7 w.2.2.2.1 j).2.2).1,w.1.2 ++ [((rd B7 w.2.2.2.1 j).1,(C6c w.1.1 (rd B7 w.2.2.2.1 j).2.1 (rd B7 w.2.2.2.1 j).2.2).2)]),(w.2.1,(w.2.2.1,(rm w.2.2.2.1 j.toNat,w.2.2.2.2)))))
  else (false,w)
def C1P(w:A7):Bool×A7:=
  if (w.2.2.2.2.1.length:Int)+(w.1.2.length:Int)>60 then (false,w)
  else (true,((((w.1.1.1.1,w.1.1.1.1),w.1.1.2),[]),(w.2.1,(w.2.2.1,(w.2.2.2.1,(w.2.2.2.2.1++w.1.2,w.2.2.2.2.2))))))
def E88(a b:Int):Int:=bif decide (b>a) then b else a
def C1Q(w:A7)(j:Int):Bool×A7:=
  if 0≤j∧j<(w.2.2.2.2.1.length:Int) then
    if rd .bool w.2.2.1 (rd A9 w.2.2.2.2.1 j).1=true then
      (true,(w.1,(w.2.1.set (rd A9 w.2.2.2.2.1 j).1.toNat (A2R (rd B1 w.2.1 (rd A9 w.2.2.2.2.1 j).1) (rd A9 w.2.2.2.2.1 j).2),(w.2.2.1.set (rd A9 w.2.2.2.2.1 j).1.toNat false,(w.2.2.2.1,(rm w.2.2.2.2.1 j.toNat,w.2.2.2.2.2.set (rd A9 w.2.2.2.2.1 j).1.toNat (E88 (rd (.int .i64) w.2.2.2.2.2 (rd A9 w.2.2.2.2.1 j).1) (rd A9 w.2.2.2.2.1 j).2.2)))))))
    else (true,(w.1,(w.2.1,(w.2.2.1,(w.2.2.2.1,(rm w.2.2.2.2.1 j.toNat,w.2.2.2.2.2))))))
  else (false,w)
def D5Z(w:A7)(i:Int):Bool×A7:=
  if 0≤i∧i<(w.2.1.length:Int) then
    (true,((w.1.1,w.1.2.filter (fun x=>!decide (x.1=i))),(w.2.1.set i.toNat (U4 (rd B1 w.2.1 i)),(w.2.2.1.set i.toNat false,(w.2.2.2.1.filter (fun x=>!decide (x.1=i)),(w.2.2.2.2.1.filter (fun x=>!decide (x.1=i)),w.2.2.2.2.2))))))
  else (false,w)
noncomputable def B3p(w:A7)(ke:List Bool):Bool×A7:=
  match E7 (C4g w.1.1.1 ke) with
  | some (st,true,_)=>(true,((st,[]),(w.2.1.map U4,(List.replicate w.2.1.length false,([],([],w.2.2.2.2.2))))))
  | _=>(false,w)
noncomputable def evF(w:A7)(e:L0):Bool×A7:=
  if e.1=1 then C1O w e.2.1 else if e.1=2 then B3o w e.2.1 else if e.1=3 then C1P w else if e.1=4 then C1Q w e.2.1 else if e.1=5 then D5Z w e.2.1 else if e.1=6 then B3p w e.2.2 else (false,w)
theorem E5o{w:A7}{e:L0}(h:(evF w e).1=false):(evF w e).2=w:=by
  revert h
  unfold evF C1O B3o C1P C1Q D5Z B3p
  repeat' split
  all_goals first | exact fun _=>rfl | exact fun h=>absurd h (by simp)
theorem E9g{w:A7}(h:RWw w)(i:Int):RWw (C1O w i).2:=by
  unfold C1O
  split
  · rename_i hc
    obtain ⟨h0,h1,h2,h3,h4⟩:=hc
    obtain ⟨⟨st,held⟩,cls,busy,asks,tells,best⟩:=w
    simp only at h0 h1 h2 h3 h4 ⊢
    unfold RWw at h ⊢
    simp only at h ⊢
    obtain ⟨i,rfl⟩:∃ j:Nat,i=(j:Int):=⟨i.toNat,by omega⟩
    have hi:i<cls.length:=by omega
    rw [C9 (k:=B1) (xs:=cls) hi] at h4 ⊢
    have hla:=h.la
    obtain ⟨k1,k2,k3⟩:=E23 (h.cl _ (List.getElem_mem hi)) (r:=(X1 cls[i]).1) (d:=(X1 cls[i]).2.1) (by rw [← h4])
    refine {h with lb:=by rw [List.length_set];exact h.lb,la:=by simp only [List.length_append,List.length_cons,List.length_nil];omega,ask:=fun a ha=>?_}
    rcases List.mem_append.1 ha with ha | ha
    · exact h.ask a ha
    · rw [List.mem_singleton.1 ha]
      exact ⟨k1,by show (0:Int)≤(i:Int);omega,by show (i:Int)<_;omega,k2,k3⟩
  · exact h
theorem E89{w:A7}(h:RWw w)(j:Int):RWw (B3o w j).2:=by
  unfold B3o
  split
  · rename_i hc
    obtain ⟨h0,h1,h2⟩:=hc
    obtain ⟨⟨st,held⟩,cls,busy,asks,tells,best⟩:=w
    simp only at h0 h1 h2 ⊢
    unfold RWw at h ⊢
    simp only at h ⊢
    obtain ⟨j,rfl⟩:∃ q:Nat,j=(q:Int):=⟨j.toNat,by omega⟩
    have hj:j<asks.length:=by omega
    rw [C9 (k:=B7) (xs:=asks) hj]
    obtain ⟨g1,g2,g3,g4,g5⟩:=h.ask _ (List.getElem_mem hj)
    have hlh:=h.lh
    have hla:=h.la
    rw [Int.toNat_natCast]
    have hrl:=E84 hj
    refine {h with g:=E5m h.g g4,lh:=by simp only [List.length_append,List.length_cons,List.length_nil];omega,hd:=fun x hx=>?_,la:=by omega,ask:=fun x hx=>h.ask x (E20 hx)}
    rcases List.mem_append.1 hx with hx | hx
    · exact h.hd x hx
    · rw [List.mem_singleton.1 hx]
      exact ⟨E5n h.g g4,g2,g3⟩
  · exact h
theorem E9h{w:A7}(h:RWw w):RWw (C1P w).2:=by
  unfold C1P
  split
  · exact h
  · rename_i hc
    obtain ⟨⟨st,held⟩,cls,busy,asks,tells,best⟩:=w
    simp only at hc ⊢
    unfold RWw at h ⊢
    simp only at h ⊢
    exact {h with g:=E22 h.g,lh:=by simp,hd:=fun x hx=>(by cases hx),l6:=by simp only [List.length_append];omega,tl:=fun x hx=>(List.mem_append.1 hx).elim (h.tl x) (h.hd x)}
theorem D5a{c:B2}(h:cOk c)(r:N6):cOk (A2R c r):=by
  unfold A2R
  split
  · exact E85 h r
  · exact h
theorem E4R{α:Type}{l:List α}{i:Nat}{v x:α}(h:x∈l.set i v):x∈l∨x=v:=List.mem_or_eq_of_mem_set h
theorem E9i{w:A7}(h:RWw w)(j:Int):RWw (C1Q w j).2:=by
  unfold C1Q
  split
  · rename_i hc
    obtain ⟨h0,h1⟩:=hc
    obtain ⟨⟨st,held⟩,cls,busy,asks,tells,best⟩:=w
    simp only at h0 h1 ⊢
    obtain ⟨j,rfl⟩:∃ q:Nat,j=(q:Int):=⟨j.toNat,by omega⟩
    have hj:j<tells.length:=by omega
    have hrl:=E84 hj
    have hl6:=h.l6
    simp only at hl6
    rw [C9 (k:=A9) (xs:=tells) hj,Int.toNat_natCast]
    have hh:=h.tl _ (List.getElem_mem hj)
    simp only at hh
    obtain ⟨g1,g2,g3⟩:=hh
    split
    · unfold RWw at h ⊢
      simp only at h ⊢
      have hlen:(cls.set tells[j].1.toNat (A2R (rd B1 cls tells[j].1) tells[j].2)).length=cls.length:=List.length_set
      refine {h with n6:=by rw [hlen];exact h.n6,lb:=by rw [hlen,List.length_set];exact h.lb,lt:=by rw [hlen,List.length_set];exact h.lt,cl:=fun c hc=>?_,ask:=fun a ha=>by rw [hlen];exact h.ask a ha,hd:=fun a ha=>by rw [hlen];exact h.hd a ha,tl:=fun a ha=>by rw [hlen];exact h.tl a (E20 ha),l6:=by omega}
      rcases E4R hc with hc | hc
      · exact h.cl c hc
      · rw [hc]
        refine D5a ?_ _
        obtain ⟨i,hi⟩:∃ i:Nat,tells[j].1=(i:Int):=⟨tells[j].1.toNat,by omega⟩
        rw [hi,C9 (k:=B1) (xs:=cls) (by omega)]
        exact h.cl _ (List.getElem_mem _)
    · unfold RWw at h ⊢
      simp only at h ⊢
      exact {h with l6:=by omega,tl:=fun a ha=>h.tl a (E20 ha)}
  · exact h
theorem F0d{w:A7}(h:RWw w)(i:Int):RWw (D5Z w i).2:=by
  unfold D5Z
  split
  · rename_i hc
    obtain ⟨h0,h1⟩:=hc
    obtain ⟨⟨st,held⟩,cls,busy,asks,tells,best⟩:=w
    simp only at h0 h1 ⊢
    unfold RWw at h ⊢
    simp only at h ⊢
    obtain ⟨i,rfl⟩:∃ j:Nat,i=(j:Int):=⟨i.toNat,by omega⟩
    have hi:i<cls.length:=by omega
    rw [C9 (k:=B1) (xs:=cls) hi,Int.toNat_natCast]
    have hlen:(cls.set i (U4 cls[i])).length=cls.length:=List.length_set
    have l1:=List.length_filter_le (fun x:B9=>!decide (x.1=(i:Int))) held
    have l2:=List.length_filter_le (fun x:D8=>!decide (x.1=(i:Int))) asks
    have l3:=List.length_filter_le (fun x:B9=>!decide (x.1=(i:Int))) tells
    have k1:=h.lh
    have k2:=h.la
    have k3:=h.l6
    refine {h with n6:=by rw [hlen];exact h.n6,lb:=by rw [hlen,List.length_set];exact h.lb,lt:=by rw [hlen];exact h.lt,cl:=fun c hc=>?_,ask:=fun a ha=>by rw [hlen];exact h.ask a (List.mem_filter.1 ha).1,hd:=fun a ha=>by rw [hlen];exact h.hd a (List.mem_filter.1 ha).1,tl:=fun a ha=>by rw [hlen];exact h.tl a (List.mem_filter.1 ha).1,lh:=Nat.le_trans l1 k1,la:=Nat.le_trans l2 k2,l6:=Nat.le_trans l3 k3}
    rcases E4R hc with hc | hc
    · exact h.cl c hc
    · rw [hc];exact C98 (h.cl _ (List.getElem_mem hi))
  · exact h
theorem E8A{w:A7}(h:RWw w)(ke:List Bool):RWw (B3p w ke).2:=by
  obtain ⟨st,b,o1,o2,o3⟩:=D4D _ (D8O h.g.dk ke)
  unfold B3p
  have o1':E7 (C4g w.1.1.1 ke)=some (st,b,()):=o1
  rw [o1']
  cases b with
  | false=>exact h
  | true=>
    obtain ⟨⟨st0,held⟩,cls,busy,asks,tells,best⟩:=w
    unfold RWw at h ⊢
    simp only at h ⊢
    exact {g:=o3 rfl,lh:=by simp,hd:=fun x hx=>(by cases hx),n6:=by rw [List.length_map];exact h.n6,lb:=by simp,lt:=by rw [List.length_map];exact h.lt,cl:=fun c hc=>by obtain ⟨a,ha,rfl⟩:=List.mem_map.1 hc;exact C98 (h.cl a ha),la:=by simp,ask:=fun x hx=>(by cases hx),l6:=by simp,tl:=fun x hx=>(by cases hx)}
theorem F14{w:A7}(h:RWw w)(e:L0):RWw (evF w e).2:=by
  unfold evF
  repeat' split
  · exact E9g h _
  · exact E89 h _
  · exact E9h h
  · exact E9i h _
  · exact F0d h _
  · exact E8A h _
  · exact h
theorem E8B{α:Type}{l:List α}{j:Nat}(h:j<l.length):B45 l (j:Int) ((j:Int)+1)=some (rm l j,()):=by
  unfold B45
  rw [A0 (show (0:Int)≤(j:Int) by omega),A0 (show (j:Int)<(j:Int)+1 by omega),A0 (show (j:Int)+1≤(l.length:Int) by omega)]
  simp only [cond_true]
  rw [Int.toNat_natCast,show ((j:Int)+1).toNat=j+1 by omega]
  rfl
theorem E8C{α:Type}{l:List α}{j:Nat}:([]++(l.take j).drop 0)++(l.take l.length).drop ((j:Int)+1).toNat=rm l j:=by
  unfold rm
  rw [show ((j:Int)+1).toNat=j+1 by omega,List.drop_zero,List.take_length]
  rfl
theorem E4S{w:A7}(h:RWw w)(i:Int):A1E w i=some ((C1O w i).1,(C1O w i).2,())∧A2E w i=some ((C1O w i).1,(C1O w i).2,()):=by
  obtain ⟨⟨st,held⟩,cls,busy,asks,tells,best⟩:=w
  unfold RWw at h
  simp only at h
  have hn:=h.n6
  have hlb:=h.lb
  have hla:=h.la
  simp only [A1E,A8U,A2E,B0s,L1,Q3,bO,C1O]
  rw [w64 (n:=(cls.length:Int)-1) (by omega) (by omega)]
  by_cases hr:0≤i∧i≤(cls.length:Int)-1
  · obtain ⟨i,rfl⟩:∃ j:Nat,i=(j:Int):=⟨i.toNat,by omega⟩
    have hic:i<cls.length:=by omega
    obtain ⟨cl,hcl⟩:∃ x,cls[i]? = some x:=⟨_,List.getElem?_eq_getElem hic⟩
    obtain ⟨b,hb⟩:∃ x,busy[i]? = some x:=⟨_,List.getElem?_eq_getElem (by omega)⟩
    have hg:=h.cl cl (List.mem_of_getElem? hcl)
    rw [A0 hr,A0 (show (0:Int)≤(i:Int) by omega),A0 (show (i:Int)<(busy.length:Int) by omega),A0 (show (i:Int)<(cls.length:Int) by omega),A59 .bool hb,A59 E4O hcl,A59 B1 hcl,D5M cl (B1t hg) hg.2,D5L cl (B1t hg) hg.2]
    simp only [Bool.not_true,cond_false,cond_true]
    cases b with
    | true=>
      rw [if_neg (fun hx=>by have:=hx.2.2.1;cases this)]
      exact ⟨rfl,rfl⟩
    | false=>
      simp only [cond_false]
      by_cases h60:(asks.length:Int)=60
      · rw [A0 h60,A0 (show (asks.length:Int)≥60 by omega),if_neg (fun hx=>hx.2.2.2.1 h60)]
        exact ⟨rfl,rfl⟩
      · rw [A4 h60,A4 (show ¬ (asks.length:Int)≥60 by omega)]
        simp only [cond_false,C2,bO]
        generalize X1 cl=q
        obtain ⟨r,dat,ok,u⟩:=q
        cases ok with
        | false=>
          rw [if_neg (fun hx=>by have:=hx.2.2.2.2;cases this)]
          exact ⟨rfl,rfl⟩
        | true=>
          rw [if_pos ⟨by omega,by omega,trivial,h60,rfl⟩]
          simp only [Bool.not_true,cond_false,cond_true]
          rw [A0 (by simp;omega),A0 (by simp;omega)]
          exact ⟨rfl,rfl⟩
  · rw [A4 hr,if_neg (fun hx=>hr ⟨hx.1,by omega⟩)]
    exact ⟨rfl,rfl⟩
theorem D4E{w:A7}(h:RWw w)(j:Int):A0Q w j=some ((B3o w j).1,(B3o w j).2,())∧A1V w j=some ((B3o w j).1,(B3o w j).2,()):=by
  obtain ⟨⟨st,held⟩,cls,busy,asks,tells,best⟩:=w
  unfold RWw at h
  simp only at h
  have hla:=h.la
  have hlh:=h.lh
  obtain ⟨hR,hS,hok,_⟩:=C92 h.g
  simp only [A0Q,A7C,A1V,A91,L1,Q3,bO,B3o]
  rw [w64 (n:=(asks.length:Int)-1) (by omega) (by omega)]
  by_cases hr:0≤j∧j≤(asks.length:Int)-1
  · obtain ⟨j,rfl⟩:∃ q:Nat,j=(q:Int):=⟨j.toNat,by omega⟩
    have hjl:j<asks.length:=by omega
    obtain ⟨a,ha⟩:∃ x,asks[j]? = some x:=⟨_,List.getElem?_eq_getElem hjl⟩
    obtain ⟨g1,g2,g3,g4,g5⟩:=h.ask a (List.mem_of_getElem? ha)
    obtain ⟨q1,q2,q3⟩:=E86 g1
    have hid:a.2.1.2.1.size≤maxLen:=by simp only [maxLen];omega
    have ho:-9223372036854775808≤a.2.1.2.2∧a.2.1.2.2≤9223372036854775807:=by omega
    rw [A0 hr,A0 (show (0:Int)≤(j:Int) by omega),A0 (show (j:Int)<(asks.length:Int) by omega),A0 (show (j:Int)≤(asks.length:Int) by omega),A59 E4P ha,A59 B7 ha,w64 (n:=(j:Int)+1) (by omega) (by omega)]
    simp only [Bool.not_true,cond_false,cond_true,A1s,A5R,C8u a.2.1 hid,g1,bO]
    by_cases h200:(held.length:Int)=200
    · rw [A0 h200,A0 (show (held.length:Int)≥200 by omega),if_neg (fun hx=>hx.2.2 h200)]
      exact ⟨rfl,rfl⟩
    · rw [A4 h200,A4 (show ¬ (held.length:Int)≥200 by omega),if_pos ⟨by omega,by omega,h200⟩]
      have e1:=E5l st a.2.1 a.2.2 hid hR hS hok g4 g5 ho
      have e2:=D8M (st,held) a.2.1 a.2.2 hid hR g4 g5 ho
      simp only [cond_false,C2,e1,e2,bO,H8,E8B hjl,E8C,Int.toNat_natCast]
      rw [A0 (by simp;omega),A0 (by simp;omega),A0 (show (0:Int)≤(j:Int)+1 by omega),A0 (show (j:Int)+1≤(asks.length:Int) by omega),A0 (by simp;omega),A0 (by simp;omega),A0 (by simp;omega),A0 (by simp;omega)]
      exact ⟨rfl,rfl⟩
  · rw [A4 hr,if_neg (fun hx=>hr ⟨hx.1,by omega⟩)]
    exact ⟨rfl,rfl⟩
theorem D8P{w:A7}(h:RWw w):A1F w=some ((C1P w).1,(C1P w).2,())∧A6e w=some ((C1P w).1,(C1P w).2,()):=by
  obtain ⟨⟨st,held⟩,cls,busy,asks,tells,best⟩:=w
  unfold RWw at h
  simp only at h
  have hl6:=h.l6
  have hlh:=h.lh
  obtain ⟨hR,hS,_⟩:=C92 h.g
  simp only [A1F,A8W,A6e,B5N,A0G,A3H,C1P,E1f st.1 hS.1,E1g st.1 hS.1,bO]
  rw [w64 (n:=(tells.length:Int)+(held.length:Int)) (by omega) (by omega)]
  by_cases h60:(tells.length:Int)+(held.length:Int)>60
  · rw [A0 h60,if_pos h60];exact ⟨rfl,rfl⟩
  · rw [A4 h60,if_neg h60,A0 (by omega),A0 (by omega)]
    exact ⟨rfl,rfl⟩
theorem E4T{a b:Int}(h:b>a):E88 a b=b:=by unfold E88;rw [A0 h];rfl
theorem E4U{a b:Int}(h:¬ b>a):E88 a b=a:=by unfold E88;rw [A4 h];rfl
theorem D8Q{w:A7}(h:RWw w)(j:Int):A1G w j=some ((C1Q w j).1,(C1Q w j).2,())∧A2P w j=some ((C1Q w j).1,(C1Q w j).2,()):=by
  obtain ⟨⟨st,held⟩,cls,busy,asks,tells,best⟩:=w
  unfold RWw at h
  simp only at h
  have hn:=h.n6
  have hl6:=h.l6
  have hlb:=h.lb
  have hlt:=h.lt
  simp only [A1G,A8X,A2P,B1C,L1,Q3,bO,C1Q]
  rw [w64 (n:=(tells.length:Int)-1) (by omega) (by omega)]
  by_cases hr:0≤j∧j≤(tells.length:Int)-1
  · obtain ⟨j,rfl⟩:∃ q:Nat,j=(q:Int):=⟨j.toNat,by omega⟩
    have hjl:j<tells.length:=by omega
    obtain ⟨a,ha⟩:∃ x,tells[j]? = some x:=⟨_,List.getElem?_eq_getElem hjl⟩
    obtain ⟨g1,g2,g3⟩:=h.tl a (List.mem_of_getElem? ha)
    obtain ⟨who,resp⟩:=a
    simp only at g1 g2 g3
    obtain ⟨i,rfl⟩:∃ q:Nat,who=(q:Int):=⟨who.toNat,by omega⟩
    have hic:i<cls.length:=by omega
    obtain ⟨cl,hcl⟩:∃ x,cls[i]? = some x:=⟨_,List.getElem?_eq_getElem hic⟩
    obtain ⟨b,hb⟩:∃ x,busy[i]? = some x:=⟨_,List.getElem?_eq_getElem (show i<busy.length by omega)⟩
    obtain ⟨bt0,hbt⟩:∃ x,best[i]? = some x:=⟨_,List.getElem?_eq_getElem (show i<best.length by omega)⟩
    have hg:=h.cl cl (List.mem_of_getElem? hcl)
    have hsz:=Z8 hg
    rw [A0 hr,A59 A9 ha]
    have hhr:A2R cl resp=if B0A cl=true then cl else hear cl resp:=by
      unfold A2R
      rw [hg.1,g1]
      cases B0A cl<;>rfl
    have hset:∀ {α:Type} {l:List α} {n:Nat} {v:α},l[n]? = some v→l.set n v=l:=fun {α l n v} hv=>by
      obtain ⟨hn,e⟩:=List.getElem?_eq_some_iff.1 hv
      rw [← e];exact List.set_getElem_self hn
    simp only [Bool.not_true,cond_false]
    rw [if_pos (show (0:Int)≤(j:Int)∧(j:Int)<(tells.length:Int) by omega),A59 .bool hb,A59 B1 hcl,A59 (.int .i64) hbt,w64 (n:=(j:Int)+1) (by omega) (by omega),Int.toNat_natCast,Int.toNat_natCast]
    constructor
    · rw [A0 (show (0:Int)≤(j:Int) by omega),A0 (show (j:Int)<(tells.length:Int) by omega),A0 (show (0:Int)≤(i:Int) by omega),A0 (show (i:Int)<(busy.length:Int) by omega),A0 (show (i:Int)<(cls.length:Int) by omega),A0 (show (i:Int)<(best.length:Int) by omega),D1f cl resp (B1t hg) (by omega)]
      simp only [cond_true,bO,I0,E8B hjl]
      cases b<;>rfl
    · rw [A0 (show (0:Int)≤(j:Int) by omega),A0 (show (j:Int)<(tells.length:Int) by omega),A0 (show (j:Int)≤(tells.length:Int) by omega),
        A0 (show (0:Int)≤(j:Int)+1 by omega),A0 (show (j:Int)+1≤(tells.length:Int) by omega),A0 (by simp;omega),A0 (by simp;omega),A0 (by simp;omega),A0 (by simp;omega),
        A0 (show (0:Int)≤(i:Int) by omega),A0 (show (i:Int)<(busy.length:Int) by omega),A0 (show (i:Int)<(cls.length:Int) by omega),A59 E4O hcl,C8X,E1c]
      simp only [cond_true,bO,E8C]
      cases b with
      | false=>rfl
      | true=>
        simp only [cond_true,if_true]
        cases hov:B0A cl with
        | true=>
          have e1:A2R cl resp=cl:=by rw [hhr,hov];rfl
          rw [e1,hset hcl]
          simp only [Bool.not_true,cond_false,cond_true,bO]
          rw [A0 (show (i:Int)<(best.length:Int) by omega),A59 (.int .i64) hbt]
          by_cases hgt:resp.2>bt0
          · rw [A0 hgt,E4T hgt];rfl
          · rw [A4 hgt,E4U hgt,hset hbt];rfl
        | false=>
          have e1:A2R cl resp=hear cl resp:=by rw [hhr,hov];rfl
          rw [e1]
          simp only [Bool.not_false,cond_false,cond_true,bO]
          rw [A0 (show (i:Int)<(best.length:Int) by omega),A59 (.int .i64) hbt]
          by_cases hgt:resp.2>bt0
          · rw [A0 hgt,E4T hgt];rfl
          · rw [A4 hgt,E4U hgt,hset hbt];rfl
  · rw [A4 hr,if_neg (fun hx=>hr ⟨hx.1,by omega⟩)]
    exact ⟨rfl,rfl⟩
theorem E4V{w:A7}{i:Nat}{cl:B2}(hcl:w.2.1[i]? = some cl)(hb:i<w.2.2.1.length)(hg:cOk cl):Q6 w (i:Int)=some ((w.1,(w.2.1.set i (U4 cl),(w.2.2.1.set i false,w.2.2.2))),()):=by
  have hi:=F0c hcl
  have:=Z8 hg
  simp only [Q6,A8Z]
  rw [A0 (show (0:Int)≤(i:Int) by omega),A0 (show (i:Int)<(w.2.1.length:Int) by omega),A0 (show (i:Int)<(w.2.2.1.length:Int) by omega),A59 B1 hcl,D8N cl (B1t hg) (by omega)]
  rfl
theorem E4W{w:A7}(h:RWw w)(i:Int):A2A w i=some ((D5Z w i).1,(D5Z w i).2,())∧A4f w i=some ((D5Z w i).1,(D5Z w i).2,()):=by
  obtain ⟨⟨st,held⟩,cls,busy,asks,tells,best⟩:=w
  unfold RWw at h
  simp only at h
  have hn:=h.n6
  have hlb:=h.lb
  have hla:=h.la
  have hl6:=h.l6
  have hlh:=h.lh
  simp only [A2A,B0o,A4f,B3a,L1,Q3,bO,D5Z]
  rw [w64 (n:=(cls.length:Int)-1) (by omega) (by omega)]
  by_cases hr:0≤i∧i≤(cls.length:Int)-1
  · obtain ⟨i,rfl⟩:∃ q:Nat,i=(q:Int):=⟨i.toNat,by omega⟩
    have hic:i<cls.length:=by omega
    obtain ⟨cl,hcl⟩:∃ x,cls[i]? = some x:=⟨_,List.getElem?_eq_getElem hic⟩
    have hg:=h.cl cl (List.mem_of_getElem? hcl)
    have hsz:=Z8 hg
    rw [A0 hr,E21 (((st,held),(cls,(busy,(asks,(tells,best))))):A7) (i:Int) (by show asks.length≤_;omega),D4C tells _ (by omega),D4C held _ (by omega),A0 (show (0:Int)≤(i:Int) by omega),A0 (show (i:Int)<(cls.length:Int) by omega),A0 (show (i:Int)<(busy.length:Int) by omega),A59 E4O hcl,A59 B1 hcl,C4i cl (B1t hg) (by omega),if_pos ⟨by omega,by omega⟩]
    refine ⟨?_,rfl⟩
    simp only [Bool.not_true,cond_false,G4,G6,B9o,bO]
    rw [E4V (w:=(((st,held.filter fun a=>!decide (a.1=(i:Int))),(cls,(busy,(asks.filter fun a=>!decide (a.1=(i:Int)),(tells.filter fun a=>!decide (a.1=(i:Int)),best))))):A7)) hcl (by show i<busy.length;omega) hg]
    rfl
  · rw [A4 hr,if_neg (fun hx=>hr ⟨hx.1,by omega⟩)]
    exact ⟨rfl,rfl⟩
theorem D4F{w:A7}(h:RWw w)(ke:List Bool):A0S w ke=some ((B3p w ke).1,(B3p w ke).2,())∧A1X w ke=some ((B3p w ke).1,(B3p w ke).2,()):=by
  obtain ⟨⟨st0,held⟩,cls,busy,asks,tells,best⟩:=w
  unfold RWw at h
  simp only at h
  have hn:=h.n6
  have hlb:=h.lb
  obtain ⟨st,b,o1,o2,o3⟩:=D4D _ (D8O h.g.dk ke)
  have o1':E7 (C4g st0.1 ke)=some (st,b,()):=o1
  have o2':X9 (C4g st0.1 ke)=some (st,b,()):=o2
  simp only [A0S,A7E,A1X,A92,A1v,A5S,B3p,D49 st0.1 ke h.g.dk,E5h st0.1 ke h.g.dk,o1',o2',bO]
  cases b with
  | false=>exact ⟨rfl,rfl⟩
  | true=>
    simp only [cond_true,Bool.not_true,cond_false,bO]
    have hlm:(cls.map U4).length=cls.length:=List.length_map _
    have hlr:(List.replicate cls.length false).length=busy.length:=by rw [List.length_replicate];omega
    have z1:A4m (cls.map U4) cls cls.length=cls.map U4:=by unfold A4m;rw [List.drop_length,List.append_nil,List.take_of_length_le (by simp)]
    have z2:A4m (List.replicate cls.length false) busy cls.length=List.replicate cls.length false:=by unfold A4m;rw [← hlb,List.drop_length,List.append_nil,List.take_of_length_le (by simp)]
    constructor
    · refine E0 (A0n Q6 (((st0,held),(cls,(busy,(asks,(tells,best))))):A7)) (fun j=>((j:Int),st.2.1,st.2.2.1,st.1.1,st.1.2,st.2.2.2,([]:List B9),A4m (cls.map U4) cls j,A4m (List.replicate cls.length false) busy j,([]:List D8),([]:List B9),best,())) cls.length
        (true,(((((st.1.1,st.1.2),(st.2.1,(st.2.2.1,st.2.2.2))),[]),(cls.map U4,(List.replicate cls.length false,([],([],best))))):A7),()) (fun j hj=>?_) ?_
      · have l2:=B66 (l:=List.replicate cls.length false) (x:=busy) hlr j
        have gc:=C1M (l:=cls.map U4) (x:=cls) hlm hj
        rw [List.getElem?_eq_getElem hj] at gc
        have hg:=h.cl _ (List.getElem_mem hj)
        have hrest:=E4V (w:=(((((st.1.1,st.1.2),(st.2.1,(st.2.2.1,st.2.2.2))),[]),(A4m (cls.map U4) cls j,(A4m (List.replicate cls.length false) busy j,([],([],best))))):A7)) gc (by show j<(A4m (List.replicate cls.length false) busy j).length;omega) hg
        simp only [A0n]
        rw [A0 (show (j:Int)<(cls.length:Int) by omega),hrest,w64 (by omega) (by omega)]
        have e1:=B1s (l:=cls.map U4) (x:=cls) hlm (i:=j) (by omega)
        have e2:=B1s (l:=List.replicate cls.length false) (x:=busy) hlr (i:=j) (by rw [List.length_replicate];exact hj)
        rw [List.getElem_map] at e1
        rw [List.getElem_replicate] at e2
        simp only [cond_true,bO]
        rw [e1,e2]
        rfl
      · simp only [A0n,z1,z2]
        rw [A4 (by omega)]
        rfl
    · refine E0 (A21 A1M) (fun j=>((j:Int),st.2.1,st.2.2.1,st.2.2.2,([]:List D8),([]:List B9),A4m (cls.map U4) cls j,A4m (List.replicate cls.length false) busy j,best,st.1.1,st.1.2,())) cls.length
        (true,(((((st.1.1,st.1.2),(st.2.1,(st.2.2.1,st.2.2.2))),[]),(cls.map U4,(List.replicate cls.length false,([],([],best))))):A7),()) (fun j hj=>?_) ?_
      · have l1:=B66 (l:=cls.map U4) (x:=cls) hlm j
        have l2:=B66 (l:=List.replicate cls.length false) (x:=busy) hlr j
        have gc:=C1M (l:=cls.map U4) (x:=cls) hlm hj
        rw [List.getElem?_eq_getElem hj] at gc
        have hg:=h.cl _ (List.getElem_mem hj)
        have hsz:=Z8 hg
        simp only [A21,l1,l2]
        rw [A0 (show (j:Int)<(cls.length:Int) by omega),A0 (show (0:Int)≤(j:Int) by omega),A59 E4O gc,C4i _ (B1t hg) (by omega),A0 (show (j:Int)<(busy.length:Int) by omega),w64 (by omega) (by omega)]
        have e1:=B1s (l:=cls.map U4) (x:=cls) hlm (i:=j) (by omega)
        have e2:=B1s (l:=List.replicate cls.length false) (x:=busy) hlr (i:=j) (by rw [List.length_replicate];exact hj)
        rw [List.getElem_map] at e1
        rw [List.getElem_replicate] at e2
        simp only [cond_true,bO,Int.toNat_natCast]
        rw [e1,e2]
        rfl
      · simp only [A21,z1,z2,List.length_map]
        rw [A4 (by omega)]
        rfl
theorem F15{w:A7}(h:RWw w)(e:L0):A4E w e=some ((evF w e).1,(evF w e).2,())∧A6t w e=some ((evF w e).1,(evF w e).2,()):=by
  simp only [A4E,B35,A6t,B5t,evF,(E4S h _).1,(E4S h _).2,(D4E h _).1,(D4E h _).2,(D8P h).1,(D8P h).2,(D8Q h _).1,(D8Q h _).2,(E4W h _).1,(E4W h _).2,(D4F h _).1,(D4F h _).2,bO]
  by_cases h1:e.1=1
  · rw [A0 h1,if_pos h1];exact ⟨rfl,rfl⟩
  rw [A4 h1,if_neg h1]
  by_cases h2:e.1=2
  · rw [A0 h2,if_pos h2];exact ⟨rfl,rfl⟩
  rw [A4 h2,if_neg h2]
  by_cases h3:e.1=3
  · rw [A0 h3,if_pos h3];exact ⟨rfl,rfl⟩
  rw [A4 h3,if_neg h3]
  by_cases h4:e.1=4
  · rw [A0 h4,if_pos h4];exact ⟨rfl,rfl⟩
  rw [A4 h4,if_neg h4]
  by_cases h5:e.1=5
  · rw [A0 h5,if_pos h5];exact ⟨rfl,rfl⟩
  rw [A4 h5,if_neg h5]
  by_cases h6:e.1=6
  · rw [A0 h6,if_pos h6];exact ⟨rfl,rfl⟩
  rw [A4 h6,if_neg h6]
  exact ⟨rfl,rfl⟩
theorem E5p(a:List Bool)(h:a.length≤1048576):L6 a=some (a,()):=by
  simp only [L6,X8]
  have e:(bif decide (([]:List Bool).length+a.length≤9223372036854775807) then bif decide ((([]:List Bool).length+a.length)*1≤140737488355328) then some (([]++a),()) else none else none)=some (a,()):=by
    rw [A0 (by simp;omega),A0 (by simp;omega)]
    simp
  rw [e]
  cases a with
  | nil=>simp [B5w]
  | cons x xs=>simp
theorem E5q(a:List Int)(h:a.length≤1048576):N8 a=some (a,()):=by
  simp only [N8,A0D]
  have e:(bif decide (([]:List Int).length+a.length≤9223372036854775807) then bif decide ((([]:List Int).length+a.length)*8≤140737488355328) then some (([]++a),()) else none else none)=some (a,()):=by
    rw [A0 (by simp;omega),A0 (by simp;omega)]
    simp
  rw [e]
  cases a with
  | nil=>simp [B5w]
  | cons x xs=>simp
structure CpS (w:A7):Prop where
  sv:D46 w.1
  cl:w.2.1.length≤1048576
  fi:∀ c∈w.2.1,c.2.1.length≤1048576
  bu:w.2.2.1.length≤1048576
  as_:w.2.2.2.1.length≤1048576
  da:∀ a∈w.2.2.2.1,a.2.2.length≤1048576
  te:w.2.2.2.2.1.length≤1048576
  be_:w.2.2.2.2.2.length≤1048576
theorem F16{w:A7}(hs:Sm 1048576 Y5 w):CpS w where
  sv:=E4K (Nat.le_refl _) (Sm.l hs)
  cl:=(Sm.l (Sm.r hs)).1
  fi:=fun c hc=>by
    have h1:Sm 1048576 B1 c:=(Sm.l (Sm.r hs)).2 c hc
    exact (Sm.l (Sm.r h1)).1
  bu:=(Sm.l (Sm.r (Sm.r hs))).1
  as_:=(Sm.l (Sm.r (Sm.r (Sm.r hs)))).1
  da:=fun a ha=>by
    have h1:Sm 1048576 B7 a:=(Sm.l (Sm.r (Sm.r (Sm.r hs)))).2 a ha
    exact (Sm.r (Sm.r h1)).1
  te:=(Sm.l (Sm.r (Sm.r (Sm.r (Sm.r hs))))).1
  be_:=(Sm.r (Sm.r (Sm.r (Sm.r (Sm.r hs))))).1
theorem C9A{w:A7}(h:CpS w):A28 w=some (w,()):=by
  obtain ⟨⟨⟨⟨now,sure⟩,ep,nx,ups⟩,held⟩,cls,busy,asks,tells,best⟩:=w
  obtain ⟨h1,h2,h3,h4,h5,h6,h7,h8⟩:=h
  simp only at h1 h2 h3 h4 h5 h6 h7 h8
  simp only [A28,B0m,C6a _ h1,E5p _ h4,D45 _ h7,E5q _ h8,bO]
  have k1:B8 (A0N K3 (((((now,sure),(ep,(nx,ups))),held),(cls,(busy,(asks,(tells,best))))):A7)) (0,ep,nx,now,sure,ups,held,busy,tells,best,[],())=some (ep,nx,now,sure,ups,held,busy,tells,best,cls,()):=by
    have key:=E0 (A0N K3 (((((now,sure),(ep,(nx,ups))),held),(cls,(busy,(asks,(tells,best))))):A7)) (fun i=>((i:Int),ep,nx,now,sure,ups,held,busy,tells,best,cls.take i,())) cls.length (ep,nx,now,sure,ups,held,busy,tells,best,cls,()) (fun i hi=>?_) ?_
    · simpa using key
    · have g1:(i:Int)<(cls.length:Int):=by omega
      have g2:(0:Int)≤(i:Int):=by omega
      have hf:=h3 _ (List.getElem_mem hi)
      simp only [A0N,A0 g1,A0 g2,cond_true]
      rw [C9 (k:=B1) (xs:=cls) hi,B1F _ (by omega)]
      simp only [bO]
      rw [A0 (by simp;omega),A0 (by simp;omega),w64 (by omega) (by omega),List.take_succ_eq_append_getElem hi]
      rfl
    · simp [A0N]
  rw [k1]
  simp only [bO]
  have key:=E0 (A2p C6 (((((now,sure),(ep,(nx,ups))),held),(cls,(busy,(asks,(tells,best))))):A7)) (fun i=>((i:Int),ep,nx,now,sure,ups,held,busy,tells,best,cls,asks.take i,())) asks.length ((((((now,sure),(ep,(nx,ups))),held),(cls,(busy,(asks,(tells,best))))):A7),()) (fun i hi=>?_) ?_
  · simpa using key
  · have g1:(i:Int)<(asks.length:Int):=by omega
    have g2:(0:Int)≤(i:Int):=by omega
    have hf:=h6 _ (List.getElem_mem hi)
    simp only [A2p,A0 g1,A0 g2,cond_true]
    rw [C9 (k:=B7) (xs:=asks) hi,A2Q _ (by omega)]
    simp only [bO]
    rw [A0 (by simp;omega),A0 (by simp;omega),w64 (by omega) (by omega),List.take_succ_eq_append_getElem hi]
    rfl
  · simp [A2p]
theorem C9B{w:A7}(h:CpS w):A6c w=some (w,()):=by
  obtain ⟨⟨⟨⟨now,sure⟩,ep,nx,ups⟩,held⟩,cls,busy,asks,tells,best⟩:=w
  obtain ⟨h1,h2,h3,h4,h5,h6,h7,h8⟩:=h
  simp only at h1 h2 h3 h4 h5 h6 h7 h8
  simp only [A6c,B5K,C6b _ h1,bO,List.nil_append,List.length_nil,Nat.zero_add]
  rw [A0 (show busy.length≤9223372036854775807 by omega),A0 (show busy.length*1≤140737488355328 by omega),A0 (show tells.length≤9223372036854775807 by omega),A0 (show tells.length*24≤140737488355328 by omega),A0 (show best.length≤9223372036854775807 by omega),A0 (show best.length*8≤140737488355328 by omega)]
  simp only [cond_true]
  have k1:B8 (A2B W9 (((((now,sure),(ep,(nx,ups))),held),(cls,(busy,(asks,(tells,best))))):A7)) (0,ep,nx,busy,tells,best,now,sure,ups,held,[],())=some (ep,nx,busy,tells,best,now,sure,ups,held,cls,()):=by
    have key:=E0 (A2B W9 (((((now,sure),(ep,(nx,ups))),held),(cls,(busy,(asks,(tells,best))))):A7)) (fun i=>((i:Int),ep,nx,busy,tells,best,now,sure,ups,held,cls.take i,())) cls.length (ep,nx,busy,tells,best,now,sure,ups,held,cls,()) (fun i hi=>?_) ?_
    · simpa using key
    · have g1:(i:Int)<(cls.length:Int):=by omega
      have g2:(0:Int)≤(i:Int):=by omega
      have hf:=h3 _ (List.getElem_mem hi)
      simp only [A2B,A0 g1,A0 g2,cond_true]
      rw [C9 (k:=B1) (xs:=cls) hi,C8Y _ (by omega)]
      simp only [bO]
      rw [A0 (by simp;omega),A0 (by simp;omega),w64 (by omega) (by omega),List.take_succ_eq_append_getElem hi]
      rfl
    · simp [A2B]
  rw [k1]
  simp only [bO]
  have key:=E0 (A5u (((((now,sure),(ep,(nx,ups))),held),(cls,(busy,(asks,(tells,best))))):A7)) (fun i=>((i:Int),ep,nx,busy,tells,best,now,sure,ups,held,cls,asks.take i,())) asks.length ((((((now,sure),(ep,(nx,ups))),held),(cls,(busy,(asks,(tells,best))))):A7),()) (fun i hi=>?_) ?_
  · simpa using key
  · have g1:(i:Int)<(asks.length:Int):=by omega
    have g2:(0:Int)≤(i:Int):=by omega
    have hf:=h6 _ (List.getElem_mem hi)
    simp only [A5u,A0 g1,A0 g2,cond_true]
    rw [C9 (k:=B7) (xs:=asks) hi,A0 (by simp;omega),A0 (by simp;omega),A0 (by simp;omega),A0 (by simp;omega),w64 (by omega) (by omega),List.take_succ_eq_append_getElem hi]
    rfl
  · simp [A5u]
theorem E8D{w:A7}(hs:Sm 1048576 Y5 w)(hw:Wf Y5 w):(∃ b,A01 w=some (b,())∧A3Y w=some (b,())∧(b=true→RWw w)):=by
  obtain ⟨b,h1,h2⟩:=E1h w (E83 hs)
  refine ⟨b,h1,h2,fun hb=>?_⟩
  subst hb
  exact E87 w hs (fun u hu=>E1M (hw.1.1.2.2.2.2 u hu).2.2.1.2) (fun c hc=>E1M (hw.2.1.2 c hc).2.1.2) (fun a ha=>E1M (hw.2.2.2.1.2 a ha).2.2.2) h1
theorem F17(w:A7)(e:L0)(hs:Sm 1048576 Y5 w)(hw:Wf Y5 w):∃ y b,A4h w e=some (y,b,())∧C8M w e=some (y,b,())∧E9f y:=by
  obtain ⟨b,h1,h2,h3⟩:=E8D hs hw
  have hc:=F16 hs
  simp only [A4h,B3b,C8M,E1K,C9A hc,C9B hc,h1,h2,bO]
  cases b with
  | false=>exact ⟨w,false,rfl,rfl,D5Y hs⟩
  | true=>
    have hr:=h3 rfl
    obtain ⟨e1,e2⟩:=F15 hr e
    simp only [Bool.not_true,cond_false,cond_true,e1,e2,bO]
    cases hb:(evF w e).1 with
    | false=>
      rw [E5o hb]
      exact ⟨w,false,rfl,rfl,D5Y hs⟩
    | true=>exact ⟨_,true,rfl,rfl,F13 (F14 hr e)⟩
theorem exactDo(w:A7)(e:L0)(hw:Wf Y5 w)(he:Wf A5J e):B1E w e=some (true,()):=by
  have hM:(1048576:Nat)≤maxLen:=by simp only [maxLen];omega
  have hm:Sm maxLen Y5 w:=D3w hw
  have hme:Sm maxLen A5J e:=D3w he
  simp only [B1E,B1D]
  obtain ⟨r,e1,h1,h2⟩:=E1S w hm 1048576 (by omega) (by omega)
  rw [e1]
  simp only [A3]
  by_cases hr:r<0
  · rw [A0 hr];rfl
  rw [A4 hr]
  simp only [cond_false]
  obtain ⟨r2,e2,h3,h4⟩:=E1P e hme r (by omega) (by omega)
  rw [e2]
  simp only
  by_cases hr2:r2<0
  · rw [A0 hr2];rfl
  rw [A4 hr2]
  have hs:Sm 1048576 Y5 w:=h2 (by omega)
  have hse:Sm 1048576 A5J e:=h4 (by omega)
  have hl:List.length e.2.2≤1048576:=(Sm.r (Sm.r hse)).1
  obtain ⟨y,b,es,ei,hy,hyl,hyn⟩:=F17 w e hs hw
  obtain ⟨_,hxl,hxn⟩:=D5Y hs
  have q1:=C19 y hy
  have q3:=C19 w hm
  have te:=E1T e hse
  have qe:=D5H e hme
  obtain ⟨mx,x1,x2,x3,x4,ex,ax,bx,fx⟩:=D82 w hxl 1 (by omega) (by omega)
  obtain ⟨my,y1,y2,y3,y4,ey,ay,by',fy⟩:=D82 y hyl 1 (by omega) (by omega)
  obtain ⟨zk,ek⟩:=D5S e.2.2 hl mx (by omega) (by omega)
  simp only [cond_false,E1W w hs,te,es,ei,q1,q3,qe,ex,A6K,B1B,ek,ey,fy,Bool.not_true,C2,A3]
  rw [A4 (show ¬ mx+(List.length e.2.2:Int)<0 by omega),A4 (show ¬ my<0 by omega)]
  simp
end Go.Proofs.YtpdcljonclhhpaaGreat.Ev
