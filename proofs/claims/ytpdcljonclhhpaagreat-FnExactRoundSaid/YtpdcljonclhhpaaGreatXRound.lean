/- What the plain functions of the program and of the reference answer: laws of plain data. -/
import Derived.Test.YtpdcljonclhhpaaGreatXRounda
set_option linter.unusedVariables false
set_option linter.unusedSimpArgs false
namespace Go.Proofs.YtpdcljonclhhpaaGreat.Ev
theorem E6l(a:List D5)(h:a.length≤1048576):MH (A5d a) A5k (cost (fun u=>List.length u.2.2+4) a):=by
  refine B6g (A2o I2 D3) (A2v I3 D3) (fun u=>List.length u.2.2+4) a h (fun i hi m h0 h1=>?_) (fun m b hb=>by simp [A2o,hb]) (fun m b hb=>by simp [A2v,hb])
  obtain ⟨m1,d,e1,b1,b2,e2⟩:=C7n a[i].2.2 (m+1+1+1+1) (by omega) (by omega)
  have w1:IntKind.i64.wrap (m+1)=m+1:=w64 (by omega) (by omega)
  have w2:IntKind.i64.wrap (m+1+1)=m+1+1:=w64 (by omega) (by omega)
  have w3:IntKind.i64.wrap (m+1+1+1)=m+1+1+1:=w64 (by omega) (by omega)
  have w4:IntKind.i64.wrap (m+1+1+1+1)=m+1+1+1+1:=w64 (by omega) (by omega)
  have wi:IntKind.i64.wrap ((i:Int)+1)=(i:Int)+1:=w64 (by omega) (by omega)
  have g1:(0:Int)≤(i:Int):=by omega
  have ht:=A6M (m+1+1) (by omega)
  refine ⟨m1,(m,(m+1,mt (m+1+1),m+1+1+1),d),by omega,by omega,fun b hb e=>?_,fun b hb e=>?_⟩
  · have hib:i<b.length:=by omega
    have g2:(i:Int)<(b.length:Int):=by omega
    have hr:rd B8 b (i:Int)=a[i]:=by rw [D0 (k:=B8) (xs:=b) (by omega)];exact e
    simp only [A2o,A3,List.length_set,A0 g1,A0 g2,cond_true,Int.toNat_natCast,w1,w2,w3,w4,wi,List.set_set,C7m (k:=B8) hib,hr,ht,e1]
  · have g2:(i:Int)<(b.length:Int):=by omega
    have hr:rd B8 b (i:Int)=(m,(m+1,mt (m+1+1),m+1+1+1),d):=by rw [D0 (k:=B8) (xs:=b) (by omega)];exact e
    simp only [A2v,A3,A0 g1,A0 g2,cond_true,w1,w2,w3,w4,wi,hr,ht,e2]
    rw [A4 (show ¬ m1<0 by omega)]
    simp
def C7u(w:A6):Nat:=B6h w.1+cost (fun u:B0=>List.length u.2.1+3) w.2.1+cost (fun _:Bool=>1) w.2.2.1+cost (fun u:D5=>List.length u.2.2+4) w.2.2.2.1+cost (fun _:B6=>3) w.2.2.2.2.1+cost (fun _:Int=>1) w.2.2.2.2.2
def E9i(w:A6):Prop:=w.1.1.2.2.2.length≤1048576∧w.1.2.length≤1048576∧w.2.1.length≤1048576∧w.2.2.1.length≤1048576∧w.2.2.2.1.length≤1048576∧w.2.2.2.2.1.length≤1048576∧w.2.2.2.2.2.length≤1048576
theorem D6r(w:A6)(h:E9i w)(m:Int)(h0:0≤m)(h1:m+C7u w<4611686018427387904) :
    ∃ m' y1 y2 y3 y4,A23 w m=some (m',(((y1,w.1.1.2.1,w.1.1.2.2.1,y2),y3),y4),())∧m≤m'∧m'≤m+C7u w∧∀ a b,A25 (((y1,a,b,y2),y3),y4) m=some (m',()):=by
  obtain ⟨l1,l2,l3,l4,l5,l6,l7⟩:=h
  unfold C7u at *
  obtain ⟨m1,y1,y2,y3,e1,a1,b1,f1⟩:=E4C w.1 l1 l2 m h0 (by omega)
  obtain ⟨m2,z2,e2,a2,b2,f2⟩:=E0S w.2.1 l3 m1 (by omega) (by omega)
  obtain ⟨m3,z3,e3,a3,b3,f3⟩:=E6k w.2.2.1 l4 m2 (by omega) (by omega)
  obtain ⟨m4,z4,e4,a4,b4,f4⟩:=E6l w.2.2.2.1 l5 m3 (by omega) (by omega)
  obtain ⟨m5,z5,e5,a5,b5,f5⟩:=D6n w.2.2.2.2.1 l6 m4 (by omega) (by omega)
  obtain ⟨m6,z6,e6,a6,b6,f6⟩:=E8F w.2.2.2.2.2 l7 m5 (by omega) (by omega)
  refine ⟨m6,y1,y2,y3,(z2,z3,z4,z5,z6),?_,by omega,by omega,fun a b=>?_⟩
  · simp only [A23,B0I,e1,e2,e3,e4,e5,e6,A3]
  · simp only [A25,B0L,f1,f2,f3,f4,f5,f6,A3]
    rw [A4 (show ¬ m1<0 by omega),A4 (show ¬ m2<0 by omega),A4 (show ¬ m3<0 by omega),A4 (show ¬ m4<0 by omega),A4 (show ¬ m5<0 by omega),A4 (show ¬ m6<0 by omega)]
    rfl
theorem E8G{N e1 e2:Nat}{d:F2}(hN:N≤1048576)(h:Sm N (.pair (.sl e1 .str) (.sl e2 .str)) d):A9W d:=⟨D4T hN (Sm.l h),D4T hN (Sm.r h)⟩
theorem E6m{N:Nat}{s:A8}(hN:N≤1048576)(h:Sm N B6T s):A6n s:=⟨E8G hN (Sm.l h),by
    have h1:List.length s.2.2.2≤N:=(Sm.r (Sm.r (Sm.r h))).1
    omega,fun u hu=>by
    have h1:Sm N kUp u:=(Sm.r (Sm.r (Sm.r h))).2 u hu
    have h2:List.length u.2.2.1≤N:=(Sm.l (Sm.r (Sm.r h1))).1
    omega⟩
theorem E34{N:Nat}{s:C0}(hN:N≤1048576)(h:Sm N B0o s):D38 s:=⟨E6m hN (Sm.l h),by
    have h1:List.length s.2≤N:=(Sm.r h).1
    omega⟩
theorem E4E{a b:List Int}(ha:Byt a)(hb:Byt b)(h:(strOf a).toList=(strOf b).toList):a=b:=by
  rw [ByteArray.toList_eq,ByteArray.toList_eq] at h
  have h2:(a.map fun n=>UInt8.ofNat n.toNat)=b.map fun n=>UInt8.ofNat n.toNat:=h
  have hl:a.length=b.length:=by simpa using congrArg List.length h2
  refine List.ext_getElem hl fun i h1 h3=>?_
  have h4:=congrArg (fun l=>l[i]?) h2
  simp only [List.getElem?_map,List.getElem?_eq_getElem h1,List.getElem?_eq_getElem h3,Option.map_some,Option.some.injEq] at h4
  exact E9J (ha _ (List.getElem_mem h1)) (hb _ (List.getElem_mem h3)) h4
theorem E35{a b:ByteArray}(h:a.toList=b.toList):a=b:=by
  rw [ByteArray.toList_eq,ByteArray.toList_eq] at h
  obtain ⟨⟨a⟩⟩:=a
  obtain ⟨⟨b⟩⟩:=b
  have h:a=b:=h
  rw [h]
theorem E4F{a b:TUp}(ha:Byt a.2.2.1)(hb:Byt b.2.2.1)(h:A5p a b=true):a=b:=by
  simp only [A5p,Bool.and_eq_true,beq_iff_eq,decide_eq_true_eq] at h
  obtain ⟨⟨⟨h1,h2⟩,h3⟩,h4⟩:=h
  obtain ⟨a1,a2,a3,a4⟩:=a
  obtain ⟨b1,b2,b3,b4⟩:=b
  simp only at h1 h2 h3 h4 ha hb
  rw [E35 h1,h2,h3,E4E ha hb h4]
theorem E0T{a b:List TUp}(ha:∀ u∈a,Byt u.2.2.1)(hb:∀ u∈b,Byt u.2.2.1)(h:A0N a b=true):a=b:=by
  simp only [A0N,Bool.and_eq_true,decide_eq_true_eq,List.all_eq_true,List.mem_range] at h
  refine List.ext_getElem h.1 fun i h1 h3=>?_
  have h4:=h.2 i h1
  rw [D0 (k:=kUp) (xs:=a) h1,D0 (k:=kUp) (xs:=b) h3] at h4
  exact E4F (ha _ (List.getElem_mem h1)) (hb _ (List.getElem_mem h3)) h4
def wrote(st:A8)(r:H1)(us:List TUp):A8:=((st.1.1.set st.2.2.1.toNat (U8 r),st.1.2),st.2.1,st.2.2.1+1,us)
theorem B2u(st:A8)(a b kind:Int)(id:ByteArray)(n:Int)(data:List Int)(hU:Ups st.2.2.2)(hr:O8 (st.2.1,st.2.2.1,kind,id,n,data)=true)(hb:Byt data)(h0:0≤st.2.2.1)(h1:st.2.2.1<(st.1.1.length:Int))(hl:st.1.1.length≤1048576)
    (us:List TUp) (hf:N1 st.2.2.2 (st.2.1,st.2.2.1,kind,id,n,data)=some us):F3 st (a,b,kind,id,n,data)=some (wrote st (st.2.1,st.2.2.1,kind,id,n,data) us,()):=by
  have hbd:=A0a hr
  simp only at hbd
  simp only [F3,A4D]
  rw [C3b (st.2.1,st.2.2.1,kind,id,n,data) (by simp only;omega) (by simp only;omega) hb,A0 h0,A0 h1]
  simp only [A3,cond_true]
  obtain ⟨x,hx,hx2⟩:=D6j st.2.2.2 (st.2.1,st.2.2.1,kind,id,n,data) hU (by simp only;omega)
  have hI:B3H st.2.2.2 (st.2.1,st.2.2.1,kind,id,n,data)=(us,true,()):=by unfold B3H;rw [hf]
  rw [hI] at hx hx2
  rw [hx,hx2 rfl,w64 (by omega) (by omega)]
  rfl
theorem B2v(st:A8)(kind:Int)(id:ByteArray)(n:Int)(data:List Int)(hU:Ups st.2.2.2)(hr:O8 (st.2.1,st.2.2.1,kind,id,n,data)=true)(hb:Byt data)(h0:0≤st.2.2.1)(h1:st.2.2.1<(st.1.1.length:Int))(hl:st.1.1.length≤1048576)
    (us:List TUp) (hf:N1 st.2.2.2 (st.2.1,st.2.2.1,kind,id,n,data)=some us):C8 st kind id n data=some (wrote st (st.2.1,st.2.2.1,kind,id,n,data) us,()):=by
  have hbd:=A0a hr
  simp only at hbd
  simp only [C8,A0b]
  rw [C3c (st.2.1,st.2.2.1,kind,id,n,data) (by simp only [maxLen];omega) hb,if_pos hr,A0 h0,A0 h1]
  simp only [A3,cond_true]
  have hI:B3H st.2.2.2 (st.2.1,st.2.2.1,kind,id,n,data)=(us,true,()):=by unfold B3H;rw [hf]
  rw [D32 st.2.2.2 (st.2.1,st.2.2.1,kind,id,n,data) hU (by simp only;omega),hI,w64 (by omega) (by omega)]
  rfl
theorem D6s{r:H1}(h:O8 r=true):(U8 r).size≤1000:=by
  have hb:=A0a h
  unfold U8
  rw [A57,List.length_append,B5G,I9]
  omega
theorem E0U{st:A8}(h:A9W st.1){r:H1}(hr:O8 r=true)(us:List TUp):A9W (wrote st r us).1:=⟨E6j h.1 _ (by have:=D6s hr;omega),h.2⟩
theorem A7Q(us:List TUp)(id:ByteArray)(h:us.length≤maxLen):G0 us id=some (if H6 us id=true then (B5 us id:Int) else -1):=by
  simp only [G0,D31 us id h,A3]
  cases H6 us id<;>rfl
theorem C0U(us:List TUp)(id:ByteArray)(h:Ups us):O3 us id=some (if H6 us id=true then (B5 us id:Int) else -1,()):=by
  have hl:=h.2.1
  rw [D6d us id (by simp only [maxLen];omega)]
  cases hh:H6 us id with
  | true=>
    obtain ⟨hlt,_⟩:=K6.1 hh
    rw [C7h h.1 hh,if_pos hlt,if_pos rfl]
  | false=>rw [C7i h.1 hh,if_neg (Nat.lt_irrefl _),if_neg (by simp)]
theorem D6t{id:ByteArray}(h:idB id=true):id.size≤8:=by
  simp only [idB,Bool.and_eq_true,decide_eq_true_eq] at h
  omega
theorem B6i(st:A8)(h0:0≤st.2.2.1)(h1:st.2.2.1≤(st.1.1.length:Int))(hl:st.1.1.length≤1048576):K1 st=some ((st.1.1.length:Int)-st.2.2.1,st,()):=by
  simp only [K1,A7n]
  rw [w64 (by omega) (by omega)]
theorem B6j(st:A8)(h0:0≤st.2.2.1)(h1:st.2.2.1≤(st.1.1.length:Int))(hl:st.1.1.length≤1048576):Q3 st=some ((st.1.1.length:Int)-st.2.2.1,()):=by
  simp only [Q3,B54]
  rw [w64 (by omega) (by omega)]
theorem bO{α β:Type}(x:α)(f:α→Option β):A3 (some x) f=f x:=rfl
theorem E4G{us:List TUp}{id:ByteArray}(hh:H6 us id=true)(u:TUp)(hu:u.1=(rd kUp us (B5 us id:Int)).1):H6 (us.set (B5 us id) u) id=true∧B5 (us.set (B5 us id) u) id=B5 us id∧rd kUp (us.set (B5 us id) u) (B5 us id:Int)=u:=by
  obtain ⟨hlt,hid⟩:=K6.1 hh
  rw [D0 (k:=kUp) (xs:=us) hlt] at hu
  have hk:∀ q (hq:q<us.length),((us.set (B5 us id) u)[q]'(by simpa using hq)).1=us[q].1:=fun q hq=>by
    rw [List.getElem_set]
    split
    · rename_i e;subst e;exact hu
    · rfl
  have hrd:rd kUp (us.set (B5 us id) u) (B5 us id:Int)=u:=C7m (k:=kUp) hlt u
  have e1:B5 (us.set (B5 us id) u) id=B5 us id:=by
    refine A9T _ (us.set (B5 us id) u).length _ (by simp;omega) (fun j hj=>?_) (fun _=>?_)
    · rw [D0 (k:=kUp) (xs:=us.set (B5 us id) u) (by simp;omega),hk j (by omega)]
      exact B5I hj
    · rw [hrd,hu]
      exact C0P hlt
  refine ⟨?_,e1,hrd⟩
  unfold H6
  rw [e1,hrd,hu,hid]
  simp
  omega
def B5M(d:F2):Bool:=decide (d.1.length=d.2.length∧d.1.length≤200)&&((List.range d.1.length).all fun i=>!decide (((rd .str d.1 (i:Int)).size:Int)>64)&&!decide (((rd .str d.2 (i:Int)).size:Int)>64))
theorem D6u(d:F2):A1H d=some (B5M d,()):=by
  simp only [A1H,B2e,B5M]
  by_cases h1:(d.1.length:Int)=(d.2.length:Int)
  · rw [A0 h1]
    by_cases h2:(d.1.length:Int)>200
    · rw [A0 h2,A4 (show ¬ (d.1.length=d.2.length∧d.1.length≤200) by omega)]
      rfl
    · rw [A4 h2,A0 (show d.1.length=d.2.length∧d.1.length≤200 by omega)]
      simp only [Bool.not_true,cond_false,C3,Bool.true_and]
      refine C3a (A08 d) d.1.length (by simp only [maxLen];omega) (fun i=>!decide (((rd .str d.1 (i:Int)).size:Int)>64)&&!decide (((rd .str d.2 (i:Int)).size:Int)>64)) (fun i hi=>?_) (by simp [A08])
      have g1:((i:Int)<(d.1.length:Int)):=by omega
      have g2:(0:Int)≤(i:Int):=by omega
      have g3:((i:Int)<(d.2.length:Int)):=by omega
      simp only [A08,A0 g1,A0 g2,A0 g3,cond_true]
      cases decide (((rd .str d.1 (i:Int)).size:Int)>64)<;>cases decide (((rd .str d.2 (i:Int)).size:Int)>64)<;>rfl
  · rw [A4 h1,A4 (show ¬ (d.1.length=d.2.length∧d.1.length≤200) by omega)]
    rfl
theorem E4H{d:F2}(h:B5M d=true):B5M (d.1,d.1)=true:=by
  simp only [B5M,Bool.and_eq_true] at h ⊢
  refine ⟨decide_eq_true ⟨trivial,(of_decide_eq_true h.1).2⟩,List.all_eq_true.2 fun i hi=>?_⟩
  have:=List.all_eq_true.1 h.2 i hi
  simp only [Bool.and_eq_true] at this ⊢
  exact ⟨this.1,this.1⟩
theorem B7I(us:List TUp):A0N us us=true:=by
  simp only [A0N,Bool.and_eq_true]
  refine ⟨decide_eq_true trivial,List.all_eq_true.2 fun i hi=>?_⟩
  simp [A5p]
def E36(us:List TUp)(id:ByteArray)(ch:List Int):List TUp:=
  us.set (B5 us id) ((rd kUp us (B5 us id:Int)).1,(rd kUp us (B5 us id:Int)).2.1,(rd kUp us (B5 us id:Int)).2.2.1++ch,(rd kUp us (B5 us id:Int)).2.2.2)
def E6n(st:A8)(id:ByteArray)(n:Int)(ch:List Int):A8:=wrote st (st.2.1,st.2.2.1,2,id,n,ch) (E36 st.2.2.2 id ch)
def putAt(st:A8)(id:ByteArray)(off:Int)(dat:List Int):Nat→A8
  | 0=>st
  | j+1=>E6n (putAt st id off dat j) id (off+((j*24:Nat):Int)) (N2 24 dat j)
def nPc(dat:List Int):Nat:=(dat.length+24-1) / 24
structure E0V (st:A8) (id:ByteArray) (off:Int) (dat:List Int):Prop where
  idok:idB id=true
  ep:0≤st.2.1∧st.2.1≤10000
  nx:0≤st.2.2.1∧st.2.2.1+(nPc dat:Int)≤(st.1.1.length:Int)
  len:st.1.1.length≤200
  dk:A9W st.1
  up:Ups st.2.2.2
  has:H6 st.2.2.2 id=true
  nd:(rd kUp st.2.2.2 (B5 st.2.2.2 id:Int)).2.2.2=false
  at':off=(List.length (rd kUp st.2.2.2 (B5 st.2.2.2 id:Int)).2.2.1:Int)
  fits:off+(dat.length:Int)≤(rd kUp st.2.2.2 (B5 st.2.2.2 id:Int)).2.1
  byt:Byt dat
  lo:1≤dat.length
structure E8H (st:A8) (id:ByteArray) (off:Int) (dat:List Int) (j:Nat) (s:A8):Prop where
  ep:s.2.1=st.2.1
  nx:s.2.2.1=st.2.2.1+(j:Int)
  len:s.1.1.length=st.1.1.length
  dk:A9W s.1
  up:Ups s.2.2.2
  has:H6 s.2.2.2 id=true
  ix:B5 s.2.2.2 id=B5 st.2.2.2 id
  val:rd kUp s.2.2.2 (B5 s.2.2.2 id:Int)=((rd kUp st.2.2.2 (B5 st.2.2.2 id:Int)).1,(rd kUp st.2.2.2 (B5 st.2.2.2 id:Int)).2.1,(rd kUp st.2.2.2 (B5 st.2.2.2 id:Int)).2.2.1++dat.take (j*24),false)
theorem B9a(dat:List Int)(j:Nat)(h:j*24<dat.length):1≤(N2 24 dat j).length∧(N2 24 dat j).length≤24∧(N2 24 dat j).length=min (j*24+24) dat.length-j*24:=by
  have e:(N2 24 dat j).length=min (j*24+24) dat.length-j*24:=by unfold N2;rw [List.length_drop,List.length_take]
  rw [e]
  refine ⟨by omega,by omega,rfl⟩
theorem D6v(dat:List Int)(j:Nat):dat.take (j*24)++N2 24 dat j=dat.take ((j+1)*24):=by
  have h:=List.take_append_drop (j*24) (dat.take (j*24+24))
  rw [List.take_take,Nat.min_eq_left (by omega)] at h
  rw [show (j+1)*24=j*24+24 by omega]
  exact h
theorem B5N{dat:List Int}{j:Nat}:j<nPc dat↔j*24<dat.length:=by
  unfold nPc
  omega
theorem C0V{st:A8}{id:ByteArray}{off:Int}{dat:List Int}(hc:E0V st id off dat){j:Nat}{s:A8}(h:E8H st id off dat j s)(hj:j<nPc dat) :
    O8 (s.2.1,s.2.2.1,2,id,off+((j*24:Nat):Int),N2 24 dat j)=true∧N1 s.2.2.2 (s.2.1,s.2.2.1,2,id,off+((j*24:Nat):Int),N2 24 dat j)=some (E36 s.2.2.2 id (N2 24 dat j))∧
      E8H st id off dat (j+1) (E6n s id (off+((j*24:Nat):Int)) (N2 24 dat j)):=by
  obtain ⟨p1,p2,p3⟩:=B9a dat j (B5N.1 hj)
  have hj2:=B5N.1 hj
  have hlen0:(List.length (dat.take (j*24)):Int)=((j*24:Nat):Int):=by rw [List.length_take];omega
  obtain ⟨hlt,_⟩:=K6.1 hc.has
  have hu:=hc.up.2.2 _ (List.getElem_mem hlt)
  rw [← D0 (k:=kUp) hlt] at hu
  have hu1:=hu.1
  have hu2:=hu.2.1
  have hat:=hc.at'
  have hft:=hc.fits
  have hn1:=hc.nx.1
  have hn2:=hc.nx.2
  have hl:=hc.len
  have hnx:=h.nx
  have hbp:Byt (N2 24 dat j):=B14 (A6L hc.byt _) _
  have hr:O8 (s.2.1,s.2.2.1,2,id,off+((j*24:Nat):Int),N2 24 dat j)=true:=by
    simp only [O8,hc.idok,h.ep]
    rw [A0 hc.ep,A0 (show 0≤s.2.2.1∧s.2.2.1≤199 by omega),if_neg (by omega),if_pos trivial,A0 (show 0≤off+((j*24:Nat):Int)∧off+((j*24:Nat):Int)≤1000000000 by omega),A0 (show 1≤(List.length (N2 24 dat j):Int)∧(List.length (N2 24 dat j):Int)≤24 by omega)]
    rfl
  have hf:N1 s.2.2.2 (s.2.1,s.2.2.1,2,id,off+((j*24:Nat):Int),N2 24 dat j)=some (E36 s.2.2.2 id (N2 24 dat j)):=by
    have e1:(List.length (rd kUp s.2.2.2 (B5 s.2.2.2 id:Int)).2.2.1:Int)=off+((j*24:Nat):Int):=by
      rw [h.val];simp only [List.length_append];omega
    have e2:(rd kUp s.2.2.2 (B5 s.2.2.2 id:Int)).2.2.2=false:=by rw [h.val]
    have e3:@Eq Int (rd kUp s.2.2.2 (B5 s.2.2.2 id:Int)).2.1 (rd kUp st.2.2.2 (B5 st.2.2.2 id:Int)).2.1:=by rw [h.val]
    simp only [N1,h.has,e2,E36]
    rw [if_neg (by omega),if_neg (by simp),if_pos trivial,if_neg (fun hx=>by
      rcases hx with hx | hx | hx
      · cases hx
      · exact hx e1.symm
      · have hx2:(List.length (rd kUp s.2.2.2 (B5 s.2.2.2 id:Int)).2.2.1:Int)+(List.length (N2 24 dat j):Int)>(rd kUp st.2.2.2 (B5 st.2.2.2 id:Int)).2.1:=by rw [← e3];exact hx
        omega)]
  have hus:=B5J h.up ⟨hr,hbp⟩ hf
  obtain ⟨k1,k2,k3⟩:=E4G h.has ((rd kUp s.2.2.2 (B5 s.2.2.2 id:Int)).1,(rd kUp s.2.2.2 (B5 s.2.2.2 id:Int)).2.1,(rd kUp s.2.2.2 (B5 s.2.2.2 id:Int)).2.2.1++N2 24 dat j,(rd kUp s.2.2.2 (B5 s.2.2.2 id:Int)).2.2.2) rfl
  refine ⟨hr,hf,h.ep,?_,?_,E0U h.dk hr _,hus,k1,k2.trans h.ix,?_⟩
  · show s.2.2.1+1=st.2.2.1+((j+1:Nat):Int)
    omega
  · show (s.1.1.set _ _).length=_
    rw [List.length_set];exact h.len
  · show rd kUp (s.2.2.2.set (B5 s.2.2.2 id) _) ((B5 (s.2.2.2.set (B5 s.2.2.2 id) _) id:Nat):Int)=_
    rw [k2,k3,h.val]
    simp only [List.append_assoc,D6v]
theorem E9M{st:A8}{id:ByteArray}{off:Int}{dat:List Int}(hc:E0V st id off dat):E8H st id off dat 0 st:=
  ⟨rfl,by simp,rfl,hc.dk,hc.up,hc.has,rfl,by
    have e2:(rd kUp st.2.2.2 (B5 st.2.2.2 id:Int)).2.2.2=false:=hc.nd
    rw [Nat.zero_mul,List.take_zero,List.append_nil,← e2]⟩
theorem B6k{st:A8}{id:ByteArray}{off:Int}{dat:List Int}(hc:E0V st id off dat):∀ j,j≤nPc dat→E8H st id off dat j (putAt st id off dat j)
  | 0,_=>E9M hc
  | j+1,hj=>(C0V hc (B6k hc j (by omega)) (by omega)).2.2
theorem C7v{st:A8}{id:ByteArray}{off:Int}{dat:List Int}(hc:E0V st id off dat):∀ (k j:Nat),j+k=nPc dat→∀ o:Int,(j<nPc dat→o=off+((j*24:Nat):Int))→
    ∃ o',B71 (A0c C8 id) ((pieces 24 dat).drop j) (o,(putAt st id off dat j).2.1,(putAt st id off dat j).2.2.1,(putAt st id off dat j).1.1,(putAt st id off dat j).1.2,(putAt st id off dat j).2.2.2,()) =
      some (o',(putAt st id off dat (nPc dat)).2.1,(putAt st id off dat (nPc dat)).2.2.1,(putAt st id off dat (nPc dat)).1.1,(putAt st id off dat (nPc dat)).1.2,(putAt st id off dat (nPc dat)).2.2.2,())
  | 0,j,hj,o,_=>by
    rw [Nat.add_zero] at hj
    subst hj
    have:(pieces 24 dat).length=nPc dat:=by simp [pieces,nPc]
    rw [← this,List.drop_length]
    exact ⟨o,rfl⟩
  | k+1,j,hj,o,ho=>by
    have hlt:j<nPc dat:=by omega
    have hlen:(pieces 24 dat).length=nPc dat:=by simp [pieces,nPc]
    have hdrop:(pieces 24 dat).drop j=N2 24 dat j::(pieces 24 dat).drop (j+1):=by
      rw [List.drop_eq_getElem_cons (by omega)];simp [pieces]
    have ho:=ho hlt
    have hI:=B6k hc j (by omega)
    obtain ⟨hr,hf,hn⟩:=C0V hc hI hlt
    have hl:=hc.len
    have hn1:=hc.nx.1
    have hn2:=hc.nx.2
    have hnx:=hI.nx
    have hle:=hI.len
    obtain ⟨hlt',_⟩:=K6.1 hc.has
    have hu:=hc.up.2.2 _ (List.getElem_mem hlt')
    rw [← D0 (k:=kUp) hlt'] at hu
    have hu2:=hu.2.1
    have hat:=hc.at'
    have hft:=hc.fits
    obtain ⟨p1,p2,p3⟩:=B9a dat j (B5N.1 hlt)
    have hj2:=B5N.1 hlt
    have hw:=B2v (putAt st id off dat j) 2 id (off+((j*24:Nat):Int)) (N2 24 dat j) hI.up hr (B14 (A6L hc.byt _) _) (by omega) (by omega) (by omega) _ hf
    rw [hdrop]
    simp only [B71,A0c]
    have hw':C8 (((putAt st id off dat j).1.1,(putAt st id off dat j).1.2),((putAt st id off dat j).2.1,((putAt st id off dat j).2.2.1,(putAt st id off dat j).2.2.2))) 2 id o (N2 24 dat j)=some (putAt st id off dat (j+1),()):=by
      rw [ho];exact hw
    rw [hw',w64 (by omega) (by omega)]
    simp only [A3]
    exact C7v hc k (j+1) (by omega) _ (fun hl2=>by have:=B5N.1 hl2;omega)
theorem E0W{st:A8}{id:ByteArray}{off:Int}{dat:List Int}(hc:E0V st id off dat)(h400:dat.length≤400) :
    B7 (A0j F3 dat id off) (0,st.2.1,st.2.2.1,st.2.2.2,st.1.1,st.1.2,()) =
      some ((putAt st id off dat (nPc dat)).2.1,(putAt st id off dat (nPc dat)).2.2.1,(putAt st id off dat (nPc dat)).2.2.2,(putAt st id off dat (nPc dat)).1.1,(putAt st id off dat (nPc dat)).1.2,()):=by
  obtain ⟨z,e,hz⟩:=A3M (A0j F3 dat id off) (fun l=>((dat.length:Int)+24-l.1).toNat)
    (fun l=>∃ j:Nat,j≤nPc dat∧l=(((j*24:Nat):Int),(putAt st id off dat j).2.1,(putAt st id off dat j).2.2.1,(putAt st id off dat j).2.2.2,(putAt st id off dat j).1.1,(putAt st id off dat j).1.2,()))
    (fun z=>z=((putAt st id off dat (nPc dat)).2.1,(putAt st id off dat (nPc dat)).2.2.1,(putAt st id off dat (nPc dat)).2.2.2,(putAt st id off dat (nPc dat)).1.1,(putAt st id off dat (nPc dat)).1.2,())) (fun l hl=>by
      obtain ⟨j,hj,rfl⟩:=hl
      have hI:=B6k hc j hj
      have hl:=hc.len
      have hn1:=hc.nx.1
      have hn2:=hc.nx.2
      have hnx:=hI.nx
      have hle:=hI.len
      obtain ⟨hlt',_⟩:=K6.1 hc.has
      have hu:=hc.up.2.2 _ (List.getElem_mem hlt')
      rw [← D0 (k:=kUp) hlt'] at hu
      have hu2:=hu.2.1
      have hat:=hc.at'
      have hft:=hc.fits
      simp only [A0j]
      by_cases hi:j<nPc dat
      · have hj2:=B5N.1 hi
        obtain ⟨hr,hf,hn⟩:=C0V hc hI hi
        obtain ⟨p1,p2,p3⟩:=B9a dat j hj2
        rw [A0 (show ((j*24:Nat):Int)<(dat.length:Int) by omega),w64 (n:=((j*24:Nat):Int)+24) (by omega) (by omega)]
        obtain ⟨to,hto,hto2⟩:∃ to:Int,(bif decide (((j*24:Nat):Int)+24>(dat.length:Int)) then some ((dat.length:Int),()) else some (((j*24:Nat):Int)+24,()))=some (to,())∧(to.toNat=min (j*24+24) dat.length∧0≤to):=by
          by_cases hcc:((j*24:Nat):Int)+24>(dat.length:Int)
          · rw [A0 hcc];exact ⟨_,rfl,by omega,by omega⟩
          · rw [A4 hcc];exact ⟨_,rfl,by omega,by omega⟩
        simp only [cond_true,hto,bO]
        have hpc:(dat.take to.toNat).drop ((j*24:Nat):Int).toNat=N2 24 dat j:=by
          rw [hto2.1,Int.toNat_natCast,N2,List.take_eq_take_iff.2 (show min (min (j*24+24) dat.length) dat.length=min (j*24+24) dat.length by omega)]
        rw [hpc,A0 (show 0≤((j*24:Nat):Int) by omega),A0 (show ((j*24:Nat):Int)≤to by omega),A0 (show to≤(dat.length:Int) by omega),A0 (by simp;omega),A0 (by simp;omega),w64 (n:=off+((j*24:Nat):Int)) (by omega) (by omega)]
        simp only [cond_true,List.nil_append]
        have hw:=B2u (putAt st id off dat j) 0 0 2 id (off+((j*24:Nat):Int)) (N2 24 dat j) hI.up hr (B14 (A6L hc.byt _) _) (by omega) (by omega) (by omega) _ hf
        have hw':F3 (((putAt st id off dat j).1.1,(putAt st id off dat j).1.2),((putAt st id off dat j).2.1,((putAt st id off dat j).2.2.1,(putAt st id off dat j).2.2.2))) (0,(0,(2,(id,(off+((j*24:Nat):Int),N2 24 dat j)))))=some (putAt st id off dat (j+1),()):=hw
        rw [hw']
        simp only [bO]
        refine .inl ⟨_,rfl,⟨j+1,by omega,?_⟩,by simp only;omega⟩
        rw [show ((j*24:Nat):Int)+24=(((j+1)*24:Nat):Int) by omega]
      · have:j=nPc dat:=by omega
        subst this
        have:¬ nPc dat*24<dat.length:=fun h=>hi (B5N.2 h)
        rw [A4 (show ¬ ((nPc dat*24:Nat):Int)<(dat.length:Int) by omega)]
        exact .inr ⟨_,rfl,rfl⟩) (0,st.2.1,st.2.2.1,st.2.2.2,st.1.1,st.1.2,()) ⟨0,by omega,rfl⟩
  rw [e,hz]
def A6o(st:A8)(id:ByteArray)(off:Int)(dat:List Int):A8×Int:=
  if idB id=true∧1≤dat.length∧dat.length≤400 then
    (if H6 st.2.2.2 id=true then
      (if (rd kUp st.2.2.2 (B5 st.2.2.2 id:Int)).2.2.2=true∨off≠(List.length (rd kUp st.2.2.2 (B5 st.2.2.2 id:Int)).2.2.1:Int)∨off+(dat.length:Int)>(rd kUp st.2.2.2 (B5 st.2.2.2 id:Int)).2.1 then (st,4)
       else if (st.1.1.length:Int)-st.2.2.1<(nPc dat:Int) then (st,5) else (putAt st id off dat (nPc dat),0))
     else (st,2))
  else (st,1)
theorem E6o(dat:List Int)(h:dat.length≤400):(IntKind.i64.wrap ((IntKind.i64.wrap ((IntKind.i64.wrap ((dat.length:Int)+24))-1)).tdiv 24))=(nPc dat:Int):=by
  have htd:((dat.length:Int)+24-1).tdiv 24=(nPc dat:Int):=by
    rw [Int.tdiv_eq_ediv_of_nonneg (by omega)]
    unfold nPc
    omega
  rw [w64 (n:=(dat.length:Int)+24) (by omega) (by omega),w64 (n:=(dat.length:Int)+24-1) (by omega) (by omega),htd,w64 (by unfold nPc;omega) (by unfold nPc;omega)]
structure Rt (st:A8):Prop where
  g:C7k st
  up:Ups st.2.2.2
  dk:A9W st.1
theorem C0W{st:A8}{id:ByteArray}{off:Int}{dat:List Int}(h:Rt st)(hb:Byt dat)(h1:idB id=true)(h2:1≤dat.length∧dat.length≤400)(h3:H6 st.2.2.2 id=true)
    (h4:¬ ((rd kUp st.2.2.2 (B5 st.2.2.2 id:Int)).2.2.2=true∨off≠(List.length (rd kUp st.2.2.2 (B5 st.2.2.2 id:Int)).2.2.1:Int)∨off+(dat.length:Int)>(rd kUp st.2.2.2 (B5 st.2.2.2 id:Int)).2.1))
    (h5:¬ (st.1.1.length:Int)-st.2.2.1<(nPc dat:Int)):E0V st id off dat:=by
  obtain ⟨g1,g2,g3,g4,⟨g5,g6⟩,_⟩:=h.g
  rw [not_or,not_or] at h4
  refine ⟨h1,⟨g1,g2⟩,⟨g5,by omega⟩,g4,h.dk,h.up,h3,by simpa using h4.1,Decidable.not_not.1 h4.2.1,by have h6:=h4.2.2;exact Int.not_lt.1 h6,hb,h2.1⟩
theorem E0X(st:A8)(id:ByteArray)(off:Int)(dat:List Int)(hid:id.size≤maxLen)(h:Rt st)(hb:Byt dat)(hd:dat.length≤1048576)(ho:-9223372036854775808≤off∧off≤9223372036854775807) :
    A0E st id off dat=some ((A6o st id off dat).2,(A6o st id off dat).1,()):=by
  obtain ⟨g1,g2,g3,g4,⟨g5,g6⟩,_⟩:=h.g
  have hU:=h.up
  have hl:st.1.1.length≤1048576:=by omega
  have hul:=hU.2.1
  simp only [A0E,A6X,B2r id hid,K7,bO,A6o]
  cases hidb:idB id with
  | false=>simp [C3]
  | true=>
    simp only [Bool.not_true,cond_false,true_and]
    by_cases hlen:1≤(dat.length:Int)∧(dat.length:Int)≤400
    · rw [A0 hlen,if_pos (show 1≤dat.length∧dat.length≤400 by omega)]
      simp only [Bool.not_true,cond_false,C3]
      rw [A7Q st.2.2.2 id (by simp only [maxLen];omega),B6i st g5 g6 hl,E6o dat (by omega)]
      cases hh:H6 st.2.2.2 id with
      | false=>
        simp only [Bool.false_eq_true,if_false,bO]
        rw [A0 (show (-1:Int)<0 by omega)]
        rfl
      | true=>
        obtain ⟨hlt,hid2⟩:=K6.1 hh
        have hu:=hU.2.2 _ (List.getElem_mem hlt)
        rw [← D0 (k:=kUp) hlt] at hu
        have hu1:=hu.1
        have hu2:=hu.2.1
        simp only [if_true,bO]
        rw [A4 (show ¬ (B5 st.2.2.2 id:Int)<0 by omega)]
        simp only [cond_false]
        cases hdn:(rd kUp st.2.2.2 (B5 st.2.2.2 id:Int)).2.2.2 with
        | true=>simp [bO]
        | false=>
          simp only [cond_false]
          cases ho':decide (off=(List.length (rd kUp st.2.2.2 (B5 st.2.2.2 id:Int)).2.2.1:Int)) with
          | false=>
            have ho:=of_decide_eq_false ho'
            rw [if_pos (.inr (.inl ho))]
            rfl
          | true=>
            have ho:=of_decide_eq_true ho'
            simp only [Bool.not_true,cond_false,bO]
            rw [w64 (n:=off+(dat.length:Int)) (by omega) (by omega)]
            by_cases hw:off+(dat.length:Int)>(rd kUp st.2.2.2 (B5 st.2.2.2 id:Int)).2.1
            · rw [A0 hw,if_pos (.inr (.inr hw))]
              rfl
            · have hno:¬ ((rd kUp st.2.2.2 (B5 st.2.2.2 id:Int)).2.2.2=true∨off≠(List.length (rd kUp st.2.2.2 (B5 st.2.2.2 id:Int)).2.2.1:Int)∨off+(dat.length:Int)>(rd kUp st.2.2.2 (B5 st.2.2.2 id:Int)).2.1):=by
                rw [hdn];rintro (hx | hx | hx)
                · cases hx
                · exact hx ho
                · exact hw hx
              have hno':=hno
              rw [hdn] at hno'
              rw [A4 hw,if_neg hno']
              simp only [cond_false,bO]
              by_cases hleft:(st.1.1.length:Int)-st.2.2.1<(nPc dat:Int)
              · rw [A0 hleft,if_pos hleft]
                rfl
              · rw [A4 hleft,if_neg hleft,A0 (show dat.length≤1152921504606846976 by omega)]
                simp only [cond_false,cond_true]
                have hc:=C0W h hb hidb ⟨by omega,by omega⟩ hh hno hleft
                obtain ⟨o',e⟩:=C7v hc (nPc dat) 0 (by omega) off (fun _=>by simp)
                rw [List.drop_zero] at e
                have e':B71 (A0c C8 id) (pieces 24 dat) (off,st.2.1,st.2.2.1,st.1.1,st.1.2,st.2.2.2,())=_:=e
                rw [e']
                rfl
    · rw [A4 hlen,if_neg (show ¬ (1≤dat.length∧dat.length≤400) by omega)]
      rfl
theorem E0Y(st:A8)(id:ByteArray)(off:Int)(dat:List Int)(hid:id.size≤maxLen)(h:Rt st)(hS:A6n st)(hok:F8 st=some (true,()))(hb:Byt dat)(hd:dat.length≤1048576)(ho:-9223372036854775808≤off∧off≤9223372036854775807) :
    A0I st id off dat=some ((A6o st id off dat).1,(A6o st id off dat).2,()):=by
  obtain ⟨g1,g2,g3,g4,⟨g5,g6⟩,_⟩:=h.g
  have hU:=h.up
  have hl:st.1.1.length≤1048576:=by omega
  simp only [A0I,A6k,A1N st hS,hok,A8J id hid,Q7,bO,A6o]
  cases hidb:idB id with
  | false=>simp [C3]
  | true=>
    simp only [Bool.not_true,cond_false,true_and]
    by_cases hlen:1≤(dat.length:Int)∧(dat.length:Int)≤400
    · rw [A0 hlen,if_pos (show 1≤dat.length∧dat.length≤400 by omega)]
      simp only [Bool.not_true,cond_false,C3]
      rw [C0U st.2.2.2 id hU,B6j st g5 g6 hl,E6o dat (by omega)]
      cases hh:H6 st.2.2.2 id with
      | false=>
        simp only [Bool.false_eq_true,if_false,bO]
        rw [A0 (show (-1:Int)<0 by omega)]
        rfl
      | true=>
        obtain ⟨hlt,hid2⟩:=K6.1 hh
        have hu:=hU.2.2 _ (List.getElem_mem hlt)
        rw [← D0 (k:=kUp) hlt] at hu
        have hu1:=hu.1
        have hu2:=hu.2.1
        simp only [if_true,bO]
        rw [A4 (show ¬ (B5 st.2.2.2 id:Int)<0 by omega),A0 (show (0:Int)≤(B5 st.2.2.2 id:Int) by omega),A0 (show (B5 st.2.2.2 id:Int)<(st.2.2.2.length:Int) by omega)]
        simp only [cond_true,cond_false]
        cases hdn:(rd kUp st.2.2.2 (B5 st.2.2.2 id:Int)).2.2.2 with
        | true=>simp [bO]
        | false=>
          simp only [cond_false]
          cases ho':decide (off=(List.length (rd kUp st.2.2.2 (B5 st.2.2.2 id:Int)).2.2.1:Int)) with
          | false=>
            have ho:=of_decide_eq_false ho'
            rw [if_pos (.inr (.inl ho))]
            rfl
          | true=>
            have ho:=of_decide_eq_true ho'
            simp only [Bool.not_true,cond_false,bO]
            rw [w64 (n:=off+(dat.length:Int)) (by omega) (by omega)]
            by_cases hw:off+(dat.length:Int)>(rd kUp st.2.2.2 (B5 st.2.2.2 id:Int)).2.1
            · rw [A0 hw,if_pos (.inr (.inr hw))]
              rfl
            · have hno:¬ ((rd kUp st.2.2.2 (B5 st.2.2.2 id:Int)).2.2.2=true∨off≠(List.length (rd kUp st.2.2.2 (B5 st.2.2.2 id:Int)).2.2.1:Int)∨off+(dat.length:Int)>(rd kUp st.2.2.2 (B5 st.2.2.2 id:Int)).2.1):=by
                rw [hdn];rintro (hx | hx | hx)
                · cases hx
                · exact hx ho
                · exact hw hx
              have hno':=hno
              rw [hdn] at hno'
              rw [A4 hw,if_neg hno']
              simp only [cond_false,bO]
              by_cases hleft:(st.1.1.length:Int)-st.2.2.1<(nPc dat:Int)
              · rw [A0 hleft,if_pos hleft]
                rfl
              · rw [A4 hleft,if_neg hleft]
                simp only [cond_false]
                have hc:=C0W h hb hidb ⟨by omega,by omega⟩ hh hno hleft
                rw [E0W hc (by omega)]
                rfl
    · rw [A4 hlen,if_neg (show ¬ (1≤dat.length∧dat.length≤400) by omega)]
      rfl
theorem D6w{st:A8}{id:ByteArray}{off:Int}{dat:List Int}(h:Rt st)(hb:Byt dat):Ups (A6o st id off dat).1.2.2.2∧A9W (A6o st id off dat).1.1:=by
  unfold A6o
  split
  · rename_i h1
    split
    · rename_i h3
      split
      · exact ⟨h.up,h.dk⟩
      · rename_i h4
        split
        · exact ⟨h.up,h.dk⟩
        · rename_i h5
          have:=B6k (C0W h hb h1.1 h1.2 h3 h4 h5) _ (Nat.le_refl _)
          exact ⟨this.up,this.dk⟩
    · exact ⟨h.up,h.dk⟩
  · exact ⟨h.up,h.dk⟩
theorem E0Z{s:A8}(hd:A9W s.1)(hu:Ups s.2.2.2):A6n s:=⟨hd,by have:=hu.2.1;omega,B2s hu⟩
def A4a(st:A8)(id:ByteArray)(want:Int):A8×Int:=
  if idB id=true∧0≤want∧want≤1000000 then
    (if H6 st.2.2.2 id=true then (st,3)
     else if (st.1.1.length:Int)-st.2.2.1<1∨10≤st.2.2.2.length then (st,5)
     else (wrote st (st.2.1,st.2.2.1,1,id,want,[]) (st.2.2.2.take (B5 st.2.2.2 id)++(id,want,[],false)::st.2.2.2.drop (B5 st.2.2.2 id)),0))
  else (st,1)
def A4b(st:A8)(id:ByteArray)(sum:Int):A8×Int:=
  if idB id=true then
    (if H6 st.2.2.2 id=true then
      (if (List.length (rd kUp st.2.2.2 (B5 st.2.2.2 id:Int)).2.2.1:Int)<(rd kUp st.2.2.2 (B5 st.2.2.2 id:Int)).2.1 then (st,4)
       else if sum≠((B0S (rd kUp st.2.2.2 (B5 st.2.2.2 id:Int)).2.2.1 ^^^ 4294967295:Nat):Int) then (st,6)
       else if (rd kUp st.2.2.2 (B5 st.2.2.2 id:Int)).2.2.2=true then (st,0)
       else if (st.1.1.length:Int)-st.2.2.1<1 then (st,5)
       else (wrote st (st.2.1,st.2.2.1,3,id,0,[]) (st.2.2.2.set (B5 st.2.2.2 id) ((rd kUp st.2.2.2 (B5 st.2.2.2 id:Int)).1,(rd kUp st.2.2.2 (B5 st.2.2.2 id:Int)).2.1,(rd kUp st.2.2.2 (B5 st.2.2.2 id:Int)).2.2.1,true)),0))
     else (st,2))
  else (st,1)
def A4c(st:A8)(id:ByteArray):A8×Int:=
  if idB id=true then
    (if H6 st.2.2.2 id=true then
      (if (st.1.1.length:Int)-st.2.2.1<1 then (st,5)
       else (wrote st (st.2.1,st.2.2.1,4,id,0,[]) (st.2.2.2.take (B5 st.2.2.2 id)++st.2.2.2.drop (B5 st.2.2.2 id+1)),0))
     else (st,2))
  else (st,1)
theorem B2w{st:A8}(h:C7k st)(k n:Int)(id:ByteArray)(hid:idB id=true)(hl:¬ (st.1.1.length:Int)-st.2.2.1<1)(hk:k=1∧0≤n∧n≤1000000000∨(k=3∨k=4)∧n=0):O8 (st.2.1,st.2.2.1,k,id,n,[])=true:=by
  obtain ⟨g1,g2,g3,g4,⟨g5,g6⟩,_⟩:=h
  simp only [O8,hid,List.length_nil]
  rw [A0 (show 0≤st.2.1∧st.2.1≤10000 by omega),A0 (show 0≤st.2.2.1∧st.2.2.1≤199 by omega)]
  rcases hk with ⟨rfl,h0,h1⟩ | ⟨rfl | rfl,rfl⟩
  · rw [if_pos rfl,A0 (show 0≤n∧n≤1000000000 from ⟨h0,h1⟩)];rfl
  · rfl
  · rfl
theorem C2U{st:A8}{id:ByteArray}{want:Int}(h1:¬ H6 st.2.2.2 id=true)(h2:¬ 10≤st.2.2.2.length):N1 st.2.2.2 (st.2.1,st.2.2.1,1,id,want,[])=some (st.2.2.2.take (B5 st.2.2.2 id)++(id,want,[],false)::st.2.2.2.drop (B5 st.2.2.2 id)):=by
  simp only [N1,if_true]
  rw [if_neg (fun h=>h.elim h1 h2)]
theorem C2V{st:A8}{id:ByteArray}(hU:Ups st.2.2.2)(h1:H6 st.2.2.2 id=true)(h2:¬ (List.length (rd kUp st.2.2.2 (B5 st.2.2.2 id:Int)).2.2.1:Int)<(rd kUp st.2.2.2 (B5 st.2.2.2 id:Int)).2.1)(h3:¬ (rd kUp st.2.2.2 (B5 st.2.2.2 id:Int)).2.2.2=true) :
    N1 st.2.2.2 (st.2.1,st.2.2.1,3,id,0,[])=some (st.2.2.2.set (B5 st.2.2.2 id) ((rd kUp st.2.2.2 (B5 st.2.2.2 id:Int)).1,(rd kUp st.2.2.2 (B5 st.2.2.2 id:Int)).2.1,(rd kUp st.2.2.2 (B5 st.2.2.2 id:Int)).2.2.1,true)):=by
  obtain ⟨hlt,hid2⟩:=K6.1 h1
  have hu:=hU.2.2 _ (List.getElem_mem hlt)
  rw [← D0 (k:=kUp) hlt] at hu
  have hu1:=hu.1
  simp only [N1,h1]
  rw [if_neg (by omega),if_neg (by simp),if_neg (by omega),if_pos trivial,if_neg (fun h=>h.elim h3 (fun h=>h (Int.le_antisymm hu1 (Int.not_lt.1 h2))))]
theorem C2W{st:A8}{id:ByteArray}(h1:H6 st.2.2.2 id=true):N1 st.2.2.2 (st.2.1,st.2.2.1,4,id,0,[])=some (st.2.2.2.take (B5 st.2.2.2 id)++st.2.2.2.drop (B5 st.2.2.2 id+1)):=by
  simp only [N1,h1]
  rw [if_neg (by omega),if_neg (by simp),if_neg (by omega),if_neg (by omega),if_pos trivial]
theorem D6x(st:A8)(id:ByteArray)(want:Int)(hid:id.size≤maxLen)(h:Rt st):X8 st id want=some ((A4a st id want).2,(A4a st id want).1,()):=by
  obtain ⟨g1,g2,g3,g4,⟨g5,g6⟩,_⟩:=h.g
  have hU:=h.up
  have hl:st.1.1.length≤1048576:=by omega
  have hul:=hU.2.1
  simp only [X8,A4r,B2r id hid,K7,bO,A4a]
  cases hidb:idB id with
  | false=>simp [C3,bO]
  | true=>
    simp only [Bool.not_true,cond_false,true_and]
    by_cases hw:0≤want∧want≤1000000
    · rw [A0 hw,if_pos hw]
      simp only [Bool.not_true,cond_false,C3]
      rw [A7Q st.2.2.2 id (by simp only [maxLen];omega),B6i st g5 g6 hl]
      cases hh:H6 st.2.2.2 id with
      | true=>
        simp only [if_true,bO]
        rw [A4 (show ¬ (B5 st.2.2.2 id:Int)<0 by omega)]
        rfl
      | false=>
        simp only [Bool.false_eq_true,if_false,bO]
        rw [A0 (show (-1:Int)<0 by omega)]
        simp only [cond_true]
        by_cases hleft:(st.1.1.length:Int)-st.2.2.1<1
        · rw [A0 hleft,if_pos (.inl hleft)]
          rfl
        · rw [A4 hleft]
          simp only [cond_false]
          by_cases h10:10≤st.2.2.2.length
          · rw [A0 (show (st.2.2.2.length:Int)≥10 by omega),if_pos (.inr h10)]
            rfl
          · rw [A4 (show ¬ (st.2.2.2.length:Int)≥10 by omega),if_neg (fun hx=>hx.elim hleft h10)]
            simp only [cond_false]
            have hr:=B2w h.g 1 want id hidb hleft (.inl ⟨rfl,hw.1,by omega⟩)
            have hf:=C2U (st:=st) (id:=id) (want:=want) (by rw [hh];simp) h10
            rw [B2v st 1 id want [] hU hr A1o g5 (by omega) hl _ hf]
            rfl
    · rw [A4 hw,if_neg hw]
      rfl
theorem D6y(st:A8)(id:ByteArray)(want:Int)(hid:id.size≤maxLen)(h:Rt st)(hS:A6n st)(hok:F8 st=some (true,())):Y3 st id want=some ((A4a st id want).1,(A4a st id want).2,()):=by
  obtain ⟨g1,g2,g3,g4,⟨g5,g6⟩,_⟩:=h.g
  have hU:=h.up
  have hl:st.1.1.length≤1048576:=by omega
  have hul:=hU.2.1
  simp only [Y3,A51,A1N st hS,hok,A8J id hid,Q7,bO,A4a]
  cases hidb:idB id with
  | false=>simp [C3,bO]
  | true=>
    simp only [Bool.not_true,cond_false,true_and]
    by_cases hw:0≤want∧want≤1000000
    · rw [A0 hw,if_pos hw]
      simp only [Bool.not_true,cond_false,C3]
      rw [C0U st.2.2.2 id hU,B6j st g5 g6 hl]
      cases hh:H6 st.2.2.2 id with
      | true=>
        simp only [if_true,bO]
        rw [A0 (show (B5 st.2.2.2 id:Int)≥0 by omega)]
        rfl
      | false=>
        simp only [Bool.false_eq_true,if_false,bO]
        rw [A4 (show ¬ (-1:Int)≥0 by omega)]
        simp only [cond_false]
        by_cases hleft:(st.1.1.length:Int)-st.2.2.1<1
        · rw [A0 hleft,if_pos (.inl hleft)]
          rfl
        · rw [A4 hleft]
          simp only [cond_false]
          by_cases h10:10≤st.2.2.2.length
          · rw [A0 (show (st.2.2.2.length:Int)=10 by omega),if_pos (.inr h10)]
            rfl
          · rw [A4 (show ¬ (st.2.2.2.length:Int)=10 by omega),if_neg (fun hx=>hx.elim hleft h10)]
            simp only [cond_false]
            have hr:=B2w h.g 1 want id hidb hleft (.inl ⟨rfl,hw.1,by omega⟩)
            have hf:=C2U (st:=st) (id:=id) (want:=want) (by rw [hh];simp) h10
            rw [B2u st 0 0 1 id want [] hU hr A1o g5 (by omega) hl _ hf]
            rfl
    · rw [A4 hw,if_neg hw]
      rfl
theorem D6z(st:A8)(id:ByteArray)(sum:Int)(hid:id.size≤maxLen)(h:Rt st):X9 st id sum=some ((A4b st id sum).2,(A4b st id sum).1,()):=by
  obtain ⟨g1,g2,g3,g4,⟨g5,g6⟩,_⟩:=h.g
  have hU:=h.up
  have hl:st.1.1.length≤1048576:=by omega
  have hul:=hU.2.1
  simp only [X9,A4s,B2r id hid,bO,A4b]
  cases hidb:idB id with
  | false=>rfl
  | true=>
    simp only [Bool.not_true,cond_false,if_true]
    rw [A7Q st.2.2.2 id (by simp only [maxLen];omega),B6i st g5 g6 hl]
    cases hh:H6 st.2.2.2 id with
    | false=>
      simp only [Bool.false_eq_true,if_false,bO]
      rw [A0 (show (-1:Int)<0 by omega)]
      rfl
    | true=>
      obtain ⟨hlt,hid2⟩:=K6.1 hh
      have hu:=hU.2.2 _ (List.getElem_mem hlt)
      have hdl:=B2s hU _ (List.getElem_mem hlt)
      rw [← D0 (k:=kUp) hlt] at hu hdl
      simp only [if_true,bO]
      rw [A4 (show ¬ (B5 st.2.2.2 id:Int)<0 by omega)]
      simp only [cond_false]
      rw [C7b _ hu.2.2.2 (by simp only [maxLen];omega)]
      simp only [bO]
      by_cases hd1:(List.length (rd kUp st.2.2.2 (B5 st.2.2.2 id:Int)).2.2.1:Int)<(rd kUp st.2.2.2 (B5 st.2.2.2 id:Int)).2.1
      · rw [A0 hd1,if_pos hd1]
        rfl
      rw [A4 hd1,if_neg hd1]
      simp only [cond_false]
      by_cases hc:sum=((B0S (rd kUp st.2.2.2 (B5 st.2.2.2 id:Int)).2.2.1 ^^^ 4294967295:Nat):Int)
      · rw [A0 hc,if_neg (fun hx=>hx hc)]
        simp only [Bool.not_true,cond_false]
        cases hdn:(rd kUp st.2.2.2 (B5 st.2.2.2 id:Int)).2.2.2 with
        | true=>rfl
        | false=>
          simp only [Bool.not_false,cond_true,cond_false,Bool.false_eq_true,if_false,bO]
          by_cases hleft:(st.1.1.length:Int)-st.2.2.1<1
          · rw [A0 hleft,if_pos hleft]
            rfl
          · rw [A4 hleft,if_neg hleft]
            simp only [cond_false]
            have hr:=B2w h.g 3 0 id hidb hleft (.inr ⟨.inl rfl,rfl⟩)
            have hf:=C2V hU hh hd1 (by rw [hdn];simp)
            have hwi:C8 ((st.1.1,st.1.2),(st.2.1,(st.2.2.1,st.2.2.2))) 3 id 0 []=_:=B2v st 3 id 0 [] hU hr A1o g5 (by omega) hl _ hf
            simp only [C3,Bool.not_false,cond_true]
            rw [hwi]
            rfl
      · rw [A4 hc,if_pos hc]
        rfl
theorem D70(st:A8)(id:ByteArray)(sum:Int)(hid:id.size≤maxLen)(h:Rt st)(hS:A6n st)(hok:F8 st=some (true,())):Y4 st id sum=some ((A4b st id sum).1,(A4b st id sum).2,()):=by
  obtain ⟨g1,g2,g3,g4,⟨g5,g6⟩,_⟩:=h.g
  have hU:=h.up
  have hl:st.1.1.length≤1048576:=by omega
  have hul:=hU.2.1
  simp only [Y4,A52,A1N st hS,hok,A8J id hid,bO,A4b]
  cases hidb:idB id with
  | false=>rfl
  | true=>
    simp only [Bool.not_true,cond_false,C3,if_true]
    rw [C0U st.2.2.2 id hU,B6j st g5 g6 hl]
    cases hh:H6 st.2.2.2 id with
    | false=>
      simp only [Bool.false_eq_true,if_false,bO]
      rw [A0 (show (-1:Int)<0 by omega)]
      rfl
    | true=>
      obtain ⟨hlt,hid2⟩:=K6.1 hh
      have hu:=hU.2.2 _ (List.getElem_mem hlt)
      have hdl:=B2s hU _ (List.getElem_mem hlt)
      rw [← D0 (k:=kUp) hlt] at hu hdl
      simp only [if_true,bO]
      rw [A4 (show ¬ (B5 st.2.2.2 id:Int)<0 by omega),A0 (show (0:Int)≤(B5 st.2.2.2 id:Int) by omega),A0 (show (B5 st.2.2.2 id:Int)<(st.2.2.2.length:Int) by omega)]
      simp only [cond_true,cond_false]
      rw [C7a _ hu.2.2.2 (by simp only [maxLen];omega)]
      simp only [bO]
      by_cases hd1:(List.length (rd kUp st.2.2.2 (B5 st.2.2.2 id:Int)).2.2.1:Int)<(rd kUp st.2.2.2 (B5 st.2.2.2 id:Int)).2.1
      · rw [A0 hd1,if_pos hd1]
        rfl
      rw [A4 hd1,if_neg hd1]
      simp only [cond_false]
      by_cases hc:sum=((B0S (rd kUp st.2.2.2 (B5 st.2.2.2 id:Int)).2.2.1 ^^^ 4294967295:Nat):Int)
      · rw [A0 hc,if_neg (fun hx=>hx hc)]
        simp only [Bool.not_true,cond_false]
        cases hdn:(rd kUp st.2.2.2 (B5 st.2.2.2 id:Int)).2.2.2 with
        | true=>rfl
        | false=>
          simp only [Bool.not_false,cond_true,cond_false,Bool.false_eq_true,if_false,bO]
          by_cases hleft:(st.1.1.length:Int)-st.2.2.1<1
          · rw [A0 hleft,if_pos hleft]
            rfl
          · rw [A4 hleft,if_neg hleft]
            simp only [cond_false]
            have hr:=B2w h.g 3 0 id hidb hleft (.inr ⟨.inl rfl,rfl⟩)
            have hf:=C2V hU hh hd1 (by rw [hdn];simp)
            rw [B2u st 0 0 3 id 0 [] hU hr A1o g5 (by omega) hl _ hf]
            rfl
      · rw [A4 hc,if_pos hc]
        rfl
theorem D71(st:A8)(id:ByteArray)(hid:id.size≤maxLen)(h:Rt st):Y0 st id=some ((A4c st id).2,(A4c st id).1,()):=by
  obtain ⟨g1,g2,g3,g4,⟨g5,g6⟩,_⟩:=h.g
  have hU:=h.up
  have hl:st.1.1.length≤1048576:=by omega
  have hul:=hU.2.1
  simp only [Y0,A4t,B2r id hid,bO,A4c]
  cases hidb:idB id with
  | false=>rfl
  | true=>
    simp only [Bool.not_true,cond_false,if_true,C3]
    rw [A7Q st.2.2.2 id (by simp only [maxLen];omega),B6i st g5 g6 hl]
    cases hh:H6 st.2.2.2 id with
    | false=>
      simp only [Bool.false_eq_true,if_false,bO]
      rw [A0 (show (-1:Int)<0 by omega)]
      rfl
    | true=>
      simp only [if_true,bO]
      rw [A4 (show ¬ (B5 st.2.2.2 id:Int)<0 by omega)]
      simp only [cond_false,Bool.not_true]
      by_cases hleft:(st.1.1.length:Int)-st.2.2.1<1
      · rw [A0 hleft,if_pos hleft]
        rfl
      · rw [A4 hleft,if_neg hleft]
        simp only [cond_false]
        have hr:=B2w h.g 4 0 id hidb hleft (.inr ⟨.inr rfl,rfl⟩)
        have hf:=C2W (st:=st) hh
        have hwi:C8 ((st.1.1,st.1.2),(st.2.1,(st.2.2.1,st.2.2.2))) 4 id 0 []=_:=B2v st 4 id 0 [] hU hr A1o g5 (by omega) hl _ hf
        rw [hwi]
        rfl
theorem D72(st:A8)(id:ByteArray)(hid:id.size≤maxLen)(h:Rt st)(hS:A6n st)(hok:F8 st=some (true,())):Y5 st id=some ((A4c st id).1,(A4c st id).2,()):=by
  obtain ⟨g1,g2,g3,g4,⟨g5,g6⟩,_⟩:=h.g
  have hU:=h.up
  have hl:st.1.1.length≤1048576:=by omega
  have hul:=hU.2.1
  simp only [Y5,A53,A1N st hS,hok,A8J id hid,bO,A4c]
  cases hidb:idB id with
  | false=>rfl
  | true=>
    simp only [Bool.not_true,cond_false,C3,if_true]
    rw [C0U st.2.2.2 id hU,B6j st g5 g6 hl]
    cases hh:H6 st.2.2.2 id with
    | false=>
      simp only [Bool.false_eq_true,if_false,bO]
      rw [A0 (show (-1:Int)<0 by omega)]
      rfl
    | true=>
      simp only [if_true,bO]
      rw [A4 (show ¬ (B5 st.2.2.2 id:Int)<0 by omega)]
      simp only [cond_false]
      by_cases hleft:(st.1.1.length:Int)-st.2.2.1<1
      · rw [A0 hleft,if_pos hleft]
        rfl
      · rw [A4 hleft,if_neg hleft]
        simp only [cond_false]
        have hr:=B2w h.g 4 0 id hidb hleft (.inr ⟨.inr rfl,rfl⟩)
        have hf:=C2W (st:=st) hh
        rw [B2u st 0 0 4 id 0 [] hU hr A1o g5 (by omega) hl _ hf]
        rfl
theorem D0n{xs:List Int}(h:Byt xs):bytesOf (strOf xs)=xs:=by
  show ((strOfNums xs).data.toList.map fun b=>(b.toNat:Int))=xs
  rw [strOfNums_data,List.map_map]
  refine (List.map_congr_left fun x hx=>?_).trans (List.map_id _)
  have:=h x hx
  simp only [Function.comp,id]
  have e:(UInt8.ofNat x.toNat).toNat=x.toNat % 256:=UInt8.toNat_ofNat
  rw [e]
  omega
theorem D0o(s:ByteArray):strOf (bytesOf s)=s:=by
  refine E35 ?_
  rw [ByteArray.toList_eq,ByteArray.toList_eq]
  show ((bytesOf s).map fun n=>UInt8.ofNat n.toNat)=s.data.toList
  rw [bytesOf,List.map_map]
  refine (List.map_congr_left fun x hx=>?_).trans (List.map_id _)
  simp
theorem D73(n:Nat):IntKind.u8.wrap (n:Int)=((n % 256:Nat):Int):=by
  simp only [IntKind.wrap,IntKind.bits,IntKind.signed]
  simp
theorem D74(x y:Nat)(h:y<256):(x*256) ||| y=x*256+y:=by
  have:=Nat.two_pow_add_eq_or_of_lt (i:=8) (b:=y) (by simpa using h) x
  rw [Nat.mul_comm x 256]
  exact this.symm
theorem D75(p q:List Int)(n k:Nat):∀ j,j≤k→U4 (p++(big (n:Int) k++q)) p.length j=n / 2 ^ (8*(k-j)) % 2 ^ (8*j)
  | 0,_=>by simp [U4,Nat.mod_one]
  | j+1,hj=>by
    have ih:=D75 p q n k j (by omega)
    have hget:(p++(big (n:Int) k++q)).getD (p.length+j) 0=C7X (n:Int) k j:=by
      simp only [List.getD]
      rw [List.getElem?_append_right (by omega),Nat.add_sub_cancel_left,List.getElem?_append_left (by rw [I9];omega)]
      simp only [big,List.getElem?_map,List.getElem?_range (show j<k by omega),Option.map_some,Option.getD_some]
    have hat:C7X (n:Int) k j=((n / 2 ^ (8*(k-1-j)) % 256:Nat):Int):=by
      unfold C7X
      rw [← D73]
      congr 1
      rw [show (2:Int) ^ (8*(k-1-j))=((2 ^ (8*(k-1-j)):Nat):Int) by rw [Int.natCast_pow];rfl,Int.fdiv_eq_ediv_of_nonneg _ (Int.natCast_nonneg _),← Int.natCast_ediv]
    simp only [U4]
    rw [ih,hget,hat,Int.toNat_natCast,D74 _ _ (Nat.mod_lt _ (by omega))]
    rw [show k-1-j=k-(j+1) by omega]
    have e1:2 ^ (8*(k-j))=2 ^ (8*(k-(j+1)))*256:=by rw [show 8*(k-j)=8*(k-(j+1))+8 by omega,Nat.pow_add]
    have e2:2 ^ (8*(j+1))=256*2 ^ (8*j):=by rw [show 8*(j+1)=8+8*j by omega,Nat.pow_add]
    rw [e1,← Nat.div_div_eq_div_mul,e2,Nat.mod_mul]
    omega
theorem A7R{b:List Int}(p q:List Int)(n:Int)(k a:Nat)(h:b=p++(big n k++q))(ha:a=p.length)(h0:0≤n)(h1:n<2 ^ (8*k)):(U4 b a k:Int)=n:=by
  subst h;subst ha
  obtain ⟨m,rfl⟩:∃ m:Nat,n=(m:Int):=⟨n.toNat,by omega⟩
  rw [D75 p q m k k (Nat.le_refl _),Nat.sub_self,Nat.mul_zero,Nat.pow_zero,Nat.div_one]
  rw [show (2:Int) ^ (8*k)=((2 ^ (8*k):Nat):Int) by rw [Int.natCast_pow];rfl] at h1
  rw [Nat.mod_eq_of_lt (by omega)]
theorem D4U{r:H1}(h:B9Z r):bytesOf (U8 r)=B41 r++big (Y6 (E9K (B41 r))) 4:=by
  unfold U8
  exact D0n (D4P (C7f r h.2) (E31 _ _))
theorem E8I{r:H1}(h:O8 r=true)(c:List Int):B41 r++c=big r.1 3++(big r.2.1 2++(big r.2.2.1 1++(big (r.2.2.2.1.size:Int) 1++(bytesOf r.2.2.2.1++(big r.2.2.2.2.1 4++(big (List.length r.2.2.2.2.2:Int) 1++(r.2.2.2.2.2++c))))))):=by
  have hb:=A0a h
  have hq:0≤r.2.1:=by
    simp only [O8,Bool.and_eq_true] at h
    exact (of_decide_eq_true h.1.1.2).1
  unfold B41
  rw [A4H (n:=r.1) (by omega),A4H (n:=r.2.1) hq,A4H (n:=r.2.2.1) (by omega),A4H (n:=(r.2.2.2.1.size:Int)) (by omega),A4H (n:=r.2.2.2.2.1) (by omega),A4H (n:=(List.length r.2.2.2.2.2:Int)) (by omega)]
  simp only [List.append_assoc]
theorem E4I{r:H1}(h:O8 r=true):0≤r.2.1∧r.2.1≤199:=by
  simp only [O8,Bool.and_eq_true] at h
  exact of_decide_eq_true h.1.1.2
theorem E4J{r:H1}(h:O8 r=true)(c:List Int):D8 (B41 r++c)=r.2.2.2.1.size∧O0 (B41 r++c)=List.length r.2.2.2.2.2∧recAt (B41 r++c)=r:=by
  have hb:=A0a h
  have hq:=E4I h
  have e:=E8I h c
  generalize B41 r++c=b at e
  have b6:(U4 b 6 1:Int)=(r.2.2.2.1.size:Int):=A7R (big r.1 3++(big r.2.1 2++big r.2.2.1 1)) _ _ 1 6 (by rw [e];simp only [List.append_assoc];rfl) (by simp [I9]) (by omega) (by omega)
  have hid:D8 b=r.2.2.2.1.size:=by unfold D8;omega
  have b11:(U4 b (11+D8 b) 1:Int)=(List.length r.2.2.2.2.2:Int):=
    A7R (big r.1 3++(big r.2.1 2++(big r.2.2.1 1++(big (r.2.2.2.1.size:Int) 1++(bytesOf r.2.2.2.1++big r.2.2.2.2.1 4))))) _ _ 1 _ (by rw [e];simp only [List.append_assoc];rfl) (by simp [I9,bytesOf_length,hid];omega) (by omega) (by omega)
  have hdl:O0 b=List.length r.2.2.2.2.2:=by unfold O0;omega
  refine ⟨hid,hdl,?_⟩
  have b0:(U4 b 0 3:Int)=r.1:=A7R [] _ _ 3 0 (by rw [e];rfl) rfl (by omega) (by omega)
  have b3:(U4 b 3 2:Int)=r.2.1:=A7R (big r.1 3) _ _ 2 3 (by rw [e]) (by simp [I9]) (by omega) (by omega)
  have b5:(U4 b 5 1:Int)=r.2.2.1:=A7R (big r.1 3++big r.2.1 2) _ _ 1 5 (by rw [e];simp only [List.append_assoc];rfl) (by simp [I9]) (by omega) (by omega)
  have b7:(U4 b (7+D8 b) 4:Int)=r.2.2.2.2.1:=A7R (big r.1 3++(big r.2.1 2++(big r.2.2.1 1++(big (r.2.2.2.1.size:Int) 1++bytesOf r.2.2.2.1)))) _ _ 4 _ (by rw [e];simp only [List.append_assoc];rfl) (by simp [I9,bytesOf_length,hid];omega) (by omega) (by omega)
  have t1:(b.take (7+D8 b)).drop 7=bytesOf r.2.2.2.1:=by
    have e7:b=(big r.1 3++(big r.2.1 2++(big r.2.2.1 1++big (r.2.2.2.1.size:Int) 1)))++(bytesOf r.2.2.2.1++(big r.2.2.2.2.1 4++(big (List.length r.2.2.2.2.2:Int) 1++(r.2.2.2.2.2++c)))):=by rw [e];simp only [List.append_assoc]
    have hl7:(big r.1 3++(big r.2.1 2++(big r.2.2.1 1++big (r.2.2.2.1.size:Int) 1))).length=7:=by simp [I9]
    rw [hid,List.drop_take,Nat.add_sub_cancel_left,e7,← hl7,List.drop_left,← bytesOf_length,List.take_left]
  have t2:(b.take (12+D8 b+O0 b)).drop (12+D8 b)=r.2.2.2.2.2:=by
    have e12:b=(big r.1 3++(big r.2.1 2++(big r.2.2.1 1++(big (r.2.2.2.1.size:Int) 1++(bytesOf r.2.2.2.1++(big r.2.2.2.2.1 4++big (List.length r.2.2.2.2.2:Int) 1))))))++(r.2.2.2.2.2++c):=by rw [e];simp only [List.append_assoc]
    have hl12:(big r.1 3++(big r.2.1 2++(big r.2.2.1 1++(big (r.2.2.2.1.size:Int) 1++(bytesOf r.2.2.2.1++(big r.2.2.2.2.1 4++big (List.length r.2.2.2.2.2:Int) 1)))))).length=12+r.2.2.2.1.size:=by simp [I9,bytesOf_length];omega
    rw [hid,hdl,List.drop_take,Nat.add_sub_cancel_left,e12,← hl12,List.drop_left,List.take_left]
  unfold recAt
  rw [b0,b3,b5,b7,t1,t2,D0o]
theorem C7w{r:H1}(h:B9Z r):K3 (U8 r)=(r,true,()):=by
  have hpb:=D4U h
  obtain ⟨h1,h2,h3⟩:=E4J h.1 (big (Y6 (E9K (B41 r))) 4)
  have hsz:(U8 r).size=12+r.2.2.2.1.size+List.length r.2.2.2.2.2+4:=by
    unfold U8
    rw [A57,List.length_append,B5G,I9]
  have hg:B6f (U8 r)=true:=by
    unfold B6f
    rw [hpb,h1,h2,h3,hsz,A0 (by omega),h.1]
    simp
  unfold K3
  rw [if_pos hg,hpb,h3]
theorem E4K{r:H1}(h:O8 r=true):(U8 r).size≤64:=by
  have hb:=A0a h
  unfold U8
  rw [A57,List.length_append,B5G,I9]
  omega
def B2x(last:Int)(i:Nat)(s:ByteArray):Bool:=(K3 s).2.1&&decide ((K3 s).1.2.1=(i:Int))&&!decide ((K3 s).1.1<last)
def U5(last:Int)(i:Nat):List ByteArray→List H1
  | []=> []
  | s::l=>if B2x last i s=true then (K3 s).1::U5 (K3 s).1.1 (i+1) l else []
def O1(now:List ByteArray):List H1:=U5 0 0 now
def B7J:Int→List H1→Int
  | e,[]=>e
  | _,r::l=>B7J r.1 l
theorem C2X(last:Int)(i:Nat)(l:List ByteArray):(U5 last i l).length≤l.length:=by
  induction l generalizing last i with
  | nil=>exact Nat.le_refl _
  | cons s l ih=>
    simp only [U5]
    split
    · have:=ih (K3 s).1.1 (i+1);simp only [List.length_cons];omega
    · simp
theorem C7x(last:Int)(i:Nat)(l:List ByteArray):∀ r∈U5 last i l,B9Z r:=by
  induction l generalizing last i with
  | nil=>intro r hr;cases hr
  | cons s l ih=>
    intro r hr
    simp only [U5] at hr
    split at hr
    · rename_i hg
      simp only [B2x,Bool.and_eq_true] at hg
      rcases List.mem_cons.1 hr with rfl | hr
      · exact C3d hg.1.1
      · exact ih _ _ r hr
    · cases hr
theorem E4L(last:Int)(i:Nat)(a b:List ByteArray)(h:(U5 last i a).length=a.length):U5 last i (a++b)=U5 last i a++U5 (B7J last (U5 last i a)) (i+a.length) b:=by
  induction a generalizing last i with
  | nil=>simp [U5,B7J]
  | cons s a ih=>
    simp only [U5,List.cons_append] at h ⊢
    split
    · rename_i hg
      rw [if_pos hg] at h
      simp only [List.length_cons,Nat.add_right_cancel_iff] at h
      rw [ih _ _ h,List.cons_append,B7J,List.length_cons]
      congr 3
      omega
    · rename_i hg
      rw [if_neg hg] at h
      simp at h
theorem E0a(last:Int)(i:Nat)(l:List ByteArray):U5 last i (l.take (U5 last i l).length)=U5 last i l:=by
  induction l generalizing last i with
  | nil=>rfl
  | cons s l ih=>
    simp only [U5]
    split
    · rename_i hg
      simp only [List.length_cons,List.take_succ_cons,U5,if_pos hg,ih]
    · rfl
theorem E0b(last:Int)(i:Nat)(l:List ByteArray)(h:∀ s,l.head? = some s→B2x last i s=false):U5 last i l = []:=by
  cases l with
  | nil=>rfl
  | cons s l=>simp only [U5,h s rfl,Bool.false_eq_true,if_false]
theorem E0c(last:Int)(i:Nat)(s:ByteArray)(l:List ByteArray):U5 last i (s::l)=bif B2x last i s then (K3 s).1::U5 (K3 s).1.1 (i+1) l else []:=by
  simp only [U5]
  cases B2x last i s<;>rfl
set_option maxRecDepth 100000 in
theorem E4M(d:F2)(h:B5K d.1):A1j d=some (O1 d.1,()):=by
  have hl:=h.1
  obtain ⟨z,e,hz⟩:=A3M (Q2 N8 d) (fun l=>((d.1.length:Int)-l.2.1).toNat) (fun l=>∃ i:Nat,l.2.1=(i:Int)∧i≤d.1.length∧List.length l.2.2.1=i∧O1 d.1=l.2.2.1++U5 l.1 i (d.1.drop i))
    (fun z=>z=(O1 d.1,())) (fun l hl=>by
      obtain ⟨i,h0,h1,h2,h3⟩:=hl
      simp only [Q2]
      by_cases hi:i<d.1.length
      · rw [h0,A0 (show (i:Int)<(d.1.length:Int) by omega),A0 (show (0:Int)≤(i:Int) by omega)]
        simp only [cond_true]
        rw [A9R _ (B2t h hi)]
        simp only [A3]
        rw [A6m hi]
        have hdrop:d.1.drop i=d.1[i]::d.1.drop (i+1):=List.drop_eq_getElem_cons hi
        rw [hdrop] at h3
        rw [E0c] at h3
        simp only [B2x] at h3
        obtain ⟨g,hg⟩:∃ g,K3 d.1[i]=g:=⟨_,rfl⟩
        rw [hg] at h3 ⊢
        cases hk:g.2.1 with
        | false=>
          rw [hk] at h3
          simp only [Bool.false_and,cond_false,List.append_nil] at h3
          exact .inr ⟨_,rfl,by rw [h3]⟩
        | true=>
          rw [hk] at h3
          simp only [Bool.true_and] at h3
          simp only [Bool.not_true,cond_false]
          by_cases e1:g.1.2.1=(i:Int)
          · rw [A0 e1] at h3 ⊢
            by_cases e2:g.1.1<l.1
            · rw [A0 e2] at h3 ⊢
              simp only [Bool.not_true,Bool.and_false,cond_false,List.append_nil] at h3
              exact .inr ⟨_,rfl,by rw [h3]⟩
            · rw [A4 e2] at h3 ⊢
              simp only [Bool.not_false,Bool.and_true,cond_true,Bool.true_and] at h3
              simp only [Bool.not_true,cond_false]
              rw [A0 (by simp;omega),A0 (by simp;omega),w64 (by omega) (by omega)]
              refine .inl ⟨_,rfl,⟨i+1,by simp only;omega,by omega,by simp;omega,?_⟩,by simp only;omega⟩
              simp only
              rw [h3,List.append_assoc]
              rfl
          · rw [A4 e1] at h3 ⊢
            simp only [Bool.false_and,cond_false,List.append_nil] at h3
            exact .inr ⟨_,rfl,by rw [h3]⟩
      · rw [h0,A4 (show ¬ (i:Int)<(d.1.length:Int) by omega)]
        rw [List.drop_eq_nil_of_le (by omega)] at h3
        simp only [U5,List.append_nil] at h3
        exact .inr ⟨_,rfl,by rw [h3]⟩) (0,0,[],()) ⟨0,rfl,by omega,rfl,by simp [O1]⟩
  have e':A1j d=some z:=e
  rw [e',hz]
structure GoodS (st:A8):Prop where
  dk:B5M st.1=true
  ep:0≤st.2.1∧st.2.1≤10000
  up:X7 [] (O1 st.1.1)=some st.2.2.2
  nx:st.2.2.1=(List.length (O1 st.1.1):Int)
  le:B7J 0 (O1 st.1.1)≤st.2.1
  tl:((st.1.1.drop (O1 st.1.1).length).all fun s=>!B5L st.2.1 s)=true
theorem D4V{d:F2}(h:B5M d=true):A9W d∧d.1.length=d.2.length∧d.1.length≤200∧(∀ s∈d.1,s.size≤64)∧∀ s∈d.2,s.size≤64:=by
  simp only [B5M,Bool.and_eq_true] at h
  obtain ⟨h1,h2⟩:=h
  have h1:=of_decide_eq_true h1
  have k1:∀ s∈d.1,s.size≤64:=fun s hs=>by
    obtain ⟨i,hi,rfl⟩:=List.getElem_of_mem hs
    have:=List.all_eq_true.1 h2 i (List.mem_range.2 hi)
    simp only [Bool.and_eq_true,Bool.not_eq_true',decide_eq_false_iff_not] at this
    have h3:=this.1
    rw [A6m hi] at h3
    omega
  have k2:∀ s∈d.2,s.size≤64:=fun s hs=>by
    obtain ⟨i,hi,rfl⟩:=List.getElem_of_mem hs
    have:=List.all_eq_true.1 h2 i (List.mem_range.2 (by omega))
    simp only [Bool.and_eq_true,Bool.not_eq_true',decide_eq_false_iff_not] at this
    have h3:=this.2
    rw [A6m hi] at h3
    omega
  exact ⟨⟨⟨by omega,fun s hs=>by have:=k1 s hs;omega⟩,by omega,fun s hs=>by have:=k2 s hs;omega⟩,h1.1,h1.2,k1,k2⟩
theorem E6p{d:F2}(h1:d.1.length=d.2.length)(h2:d.1.length≤200)(h3:∀ s∈d.1,s.size≤64)(h4:∀ s∈d.2,s.size≤64):B5M d=true:=by
  simp only [B5M,Bool.and_eq_true]
  refine ⟨decide_eq_true ⟨h1,h2⟩,List.all_eq_true.2 fun i hi=>?_⟩
  have hi:=List.mem_range.1 hi
  rw [A6m hi,A6m (show i<d.2.length by omega)]
  have k1:=h3 _ (List.getElem_mem hi)
  have k2:=h4 _ (List.getElem_mem (show i<d.2.length by omega))
  rw [A4 (by omega),A4 (by omega)]
  rfl
theorem E0d(l:List H1)(h:0<l.length)(e:Int):(rd A6y l ((l.length:Int)-1)).1=B7J e l:=by
  induction l generalizing e with
  | nil=>simp at h
  | cons r l ih=>
    cases l with
    | nil=>rfl
    | cons r' l=>
      have h2:=ih (by simp) r.1
      simp only [B7J] at h2 ⊢
      rw [← h2]
      have e1:((r::r'::l).length:Int)-1=(((l.length+1):Nat):Int):=by simp only [List.length_cons];omega
      have e2:((r'::l).length:Int)-1=((l.length:Nat):Int):=by simp only [List.length_cons];omega
      rw [e1,e2,D0 (k:=A6y) (xs:=r::r'::l) (by simp),D0 (k:=A6y) (xs:=r'::l) (by simp)]
      rfl
theorem C3i(st:A8)(h:B5K st.1.1)(hb:∀ u∈st.2.2.2,Byt u.2.2.1):∃ b,F8 st=some (b,())∧A14 st=some (b,())∧(b=true↔GoodS st):=by
  obtain ⟨b,hs,hi,_⟩:=C7l st h
  refine ⟨b,hs,hi,?_⟩
  have hl:=h.1
  have hrg:=C7x 0 0 st.1.1
  have hll:=C2X 0 0 st.1.1
  have hfs:=B7H (O1 st.1.1) (by simp only [maxLen,O1];omega) hrg
  simp only [F8,A9C,D6u,E4M st.1 h,hfs,Q7,A3] at hs
  have hsc:U5 0 0 st.1.1=O1 st.1.1:=rfl
  rw [hsc] at hrg hll
  cases hbd:B5M st.1 with
  | false=>
    rw [hbd] at hs
    have:b=false:=by
      simp only [Bool.not_false,cond_true] at hs
      first | (injection hs with hs;injection hs with hs;exact hs.symm) | (simp [C3] at hs;exact hs.symm)
    rw [this]
    exact ⟨fun e=>by (cases e),fun g=>by rw [g.dk] at hbd;cases hbd⟩
  | true=>
    rw [hbd] at hs
    simp only [Bool.not_true,cond_false] at hs
    by_cases he:0≤st.2.1∧st.2.1≤10000
    · rw [A0 he] at hs
      simp only [Bool.not_true,cond_false,C3] at hs
      unfold A6O at hs
      cases hf:X7 [] (O1 st.1.1) with
      | none=>
        rw [hf] at hs
        have:b=false:=by
          first | (injection hs with hs;injection hs with hs;exact hs.symm) | (simp at hs;exact hs.symm)
        rw [this]
        exact ⟨fun e=>by (cases e),fun g=>by rw [g.up] at hf;cases hf⟩
      | some us=>
        have hu:=A9U C6e hrg hf
        have hul:=hu.2.1
        rw [hf] at hs
        simp only at hs
        rw [D34 _ _ (show us.length≤maxLen by simp only [maxLen];omega)] at hs
        simp only [Bool.not_true,cond_false] at hs
        cases hsm:A0N us st.2.2.2 with
        | false=>
          rw [hsm] at hs
          have:b=false:=by
            first | (injection hs with hs;injection hs with hs;exact hs.symm) | (simp at hs;exact hs.symm)
          rw [this]
          refine ⟨fun e=>by (cases e),fun g=>?_⟩
          have:=g.up
          rw [hf] at this
          injection this with this
          rw [this,B7I] at hsm
          cases hsm
        | true=>
          have heq:=E0T (fun u hu'=>(hu.2.2 u hu').2.2.2) hb hsm
          rw [hsm] at hs
          simp only [Bool.not_true,cond_false] at hs
          by_cases hn:st.2.2.1=(List.length (O1 st.1.1):Int)
          · rw [A0 hn] at hs
            simp only [Bool.not_true,cond_false] at hs
            have htail:=D36 st h (O1 st.1.1).length hll
            rw [hn] at hs
            rw [htail] at hs
            by_cases hl0:(List.length (O1 st.1.1):Int)>0
            · rw [A0 hl0,w64 (n:=(List.length (O1 st.1.1):Int)-1) (by omega) (by omega),A0 (show (0:Int)≤(List.length (O1 st.1.1):Int)-1 by omega),A0 (show (List.length (O1 st.1.1):Int)-1<(List.length (O1 st.1.1):Int) by omega),E0d (O1 st.1.1) (by omega) 0] at hs
              simp only [cond_true] at hs
              by_cases hle:B7J 0 (O1 st.1.1)>st.2.1
              · rw [A0 hle] at hs
                have:b=false:=by
                  first | (injection hs with hs;injection hs with hs;exact hs.symm) | (simp at hs;exact hs.symm)
                rw [this]
                exact ⟨fun e=>by (cases e),fun g=>by have:=g.le;omega⟩
              · rw [A4 hle] at hs
                simp only [cond_false] at hs
                have:b=((st.1.1.drop (O1 st.1.1).length).all fun s=>!B5L st.2.1 s):=by
                  first | (injection hs with hs;injection hs with hs;exact hs.symm) | (simp at hs;exact hs.symm)
                rw [this]
                exact ⟨fun e=>⟨hbd,he,by rw [hf,heq],hn,by omega,e⟩,fun g=>g.tl⟩
            · rw [A4 hl0] at hs
              simp only [cond_false] at hs
              have:b=((st.1.1.drop (O1 st.1.1).length).all fun s=>!B5L st.2.1 s):=by
                first | (injection hs with hs;injection hs with hs;exact hs.symm) | (simp at hs;exact hs.symm)
              rw [this]
              have hnil:O1 st.1.1 = []:=List.length_eq_zero_iff.1 (by omega)
              exact ⟨fun e=>⟨hbd,he,by rw [hf,heq],hn,by rw [hnil];exact he.1,e⟩,fun g=>g.tl⟩
          · rw [A4 hn] at hs
            have:b=false:=by
              first | (injection hs with hs;injection hs with hs;exact hs.symm) | (simp at hs;exact hs.symm)
            rw [this]
            exact ⟨fun e=>by (cases e),fun g=>absurd g.nx hn⟩
    · rw [A4 he] at hs
      have:b=false:=by
        first | (injection hs with hs;injection hs with hs;exact hs.symm) | (simp [C3] at hs;exact hs.symm)
      rw [this]
      exact ⟨fun e=>by (cases e),fun g=>absurd g.ep he⟩
theorem D4W{st:A8}(h:GoodS st)(hr:Ups st.2.2.2):Rt st:=by
  obtain ⟨k1,k2,k3,k4,k5⟩:=D4V h.dk
  have:=C2X 0 0 st.1.1
  have hn:=h.nx
  exact ⟨⟨h.ep.1,h.ep.2,k2,k3,by simp only [O1] at hn;omega,st.2.2.2,hr,B7I _⟩,hr,k1⟩
theorem C7y{st:A8}(h:GoodS st):Ups st.2.2.2:=A9U C6e (C7x 0 0 st.1.1) h.up
theorem C3j:∀ (l l':List H1) (us:List TUp),X7 us (l++l')=(X7 us l).bind fun us'=>X7 us' l'
  | [],l',us=>rfl
  | r::l,l',us=>by
    simp only [List.cons_append,X7]
    cases N1 us r with
    | none=>rfl
    | some us'=>exact C3j l l' us'
theorem E4N(l:List H1)(r:H1)(e:Int):B7J e (l ++ [r])=r.1:=by
  induction l generalizing e with
  | nil=>rfl
  | cons x l ih=>exact ih x.1
theorem E0e{st:A8}(h:GoodS st){r:H1}(hr:B9Z r)(h1:r.1=st.2.1)(h2:r.2.1=st.2.2.1)(hlt:st.2.2.1<(st.1.1.length:Int)){us:List TUp}(hf:N1 st.2.2.2 r=some us) :
    GoodS (wrote st r us)∧O1 (wrote st r us).1.1=O1 st.1.1 ++ [r]:=by
  obtain ⟨k1,k2,k3,k4,k5⟩:=D4V h.dk
  have hn:=h.nx
  generalize hL:O1 st.1.1=L at *
  have hll:L.length≤st.1.1.length:=by rw [← hL];exact C2X 0 0 st.1.1
  have hlt':L.length<st.1.1.length:=by omega
  have hto:st.2.2.1.toNat=L.length:=by omega
  have hset:st.1.1.set L.length (U8 r)=st.1.1.take L.length++U8 r::st.1.1.drop (L.length+1):=by
    rw [List.set_eq_take_append_cons_drop,if_pos hlt']
  have htake:U5 0 0 (st.1.1.take L.length)=L:=by
    have:=E0a 0 0 st.1.1
    rw [show U5 0 0 st.1.1=L from hL] at this
    exact this
  have hgo:B2x (B7J 0 L) L.length (U8 r)=true:=by
    simp only [B2x,C7w hr,Bool.true_and]
    rw [h1,h2,A0 (by omega),A4 (by have:=h.le;rw [hL] at this;omega)]
    rfl
  have htl:=h.tl
  rw [hL] at htl
  have hscan:O1 (wrote st r us).1.1=L ++ [r]:=by
    show U5 0 0 (st.1.1.set st.2.2.1.toNat (U8 r))=_
    rw [hto,hset,E4L _ _ _ _ (by rw [htake,List.length_take];omega),htake]
    congr 1
    have hle:(st.1.1.take L.length).length=L.length:=by rw [List.length_take];omega
    simp only [U5,hle,Nat.zero_add,hgo,if_true,C7w hr]
    congr 1
    refine E0b _ _ _ fun s hs=>?_
    have hmem:s∈st.1.1.drop (L.length+1):=List.mem_of_mem_head? hs
    have hmem2:s∈st.1.1.drop L.length:=by
      rw [List.drop_eq_getElem_cons hlt']
      exact List.mem_cons_of_mem _ hmem
    have:=List.all_eq_true.1 htl s hmem2
    simp only [B5L,Bool.not_eq_true',Bool.and_eq_false_iff,decide_eq_false_iff_not] at this
    simp only [B2x,h1]
    rcases this with h3 | h3
    · rw [h3];rfl
    · rw [A0 (show (K3 s).1.1<st.2.1 by omega)]
      simp
  have hlen:(L ++ [r]).length=L.length+1:=by simp
  refine ⟨⟨?_,h.ep,?_,?_,?_,?_⟩,hscan⟩
  · refine E6p ?_ ?_ (fun s hs=>?_) k5
    · show (st.1.1.set _ _).length=_;rw [List.length_set];exact k2
    · show (st.1.1.set _ _).length≤_;rw [List.length_set];exact k3
    · rcases List.mem_or_eq_of_mem_set hs with hs | rfl
      · exact k4 s hs
      · exact E4K hr.1
  · have hup:=h.up
    rw [hL] at hup
    rw [hscan,C3j,hup]
    show X7 st.2.2.2 [r]=some us
    simp only [X7,hf]
  · rw [hscan,hlen]
    show st.2.2.1+1=_
    omega
  · rw [hscan,E4N,h1]
    exact Int.le_refl _
  · rw [hscan,hlen]
    show ((st.1.1.set st.2.2.1.toNat (U8 r)).drop (L.length+1)).all _=true
    rw [hto,List.drop_set_of_lt (by omega)]
    rw [List.drop_eq_getElem_cons hlt',List.all_cons,Bool.and_eq_true] at htl
    exact htl.2
structure Dur (st:A8) (c:Nat):Prop where
  g:GoodS st
  le:c≤(O1 st.1.1).length
  out:∀ i,¬ (c≤i∧i<(O1 st.1.1).length)→st.1.2[i]? = st.1.1[i]?
  inn:∀ i s,c≤i→i<(O1 st.1.1).length→st.1.2[i]? = some s→B5L st.2.1 s=false
  ep:∀ i (h:i<(O1 st.1.1).length),c≤i→(O1 st.1.1)[i].1=st.2.1
  sc:O1 st.1.2=(O1 st.1.1).take c
theorem E0f{st:A8}(h:GoodS st):Dur ((st.1.1,st.1.1),st.2) (O1 st.1.1).length:=
  ⟨⟨E4H h.dk,h.ep,h.up,h.nx,h.le,h.tl⟩,Nat.le_refl _,fun i _=>rfl,fun i s h1 h2 _=>by (have h3:i<(O1 st.1.1).length:=h2;omega),fun i h1 h2=>by (have h3:i<(O1 st.1.1).length:=h1;omega),(List.take_length).symm⟩
inductive Steps (id:ByteArray) (st:A8):A8→Prop
  | refl:Steps id st st
  | step {st1:A8} {r:H1} {us:List TUp}:Steps id st st1→B9Z r→r.1=st1.2.1→r.2.1=st1.2.2.1→st1.2.2.1<(st1.1.1.length:Int)→r.2.2.2.1=id→(r.2.2.1=1→r.2.2.2.2.1≤1000000)→N1 st1.2.2.2 r=some us→Steps id st (wrote st1 r us)
theorem D76{st:A8}{id:ByteArray}{n:Int}(h:Rt st):Steps id st (A4a st id n).1:=by
  unfold A4a
  split
  · rename_i h1
    split
    · exact Steps.refl
    · rename_i h2
      split
      · exact Steps.refl
      · rename_i h3
        have hr:=B2w h.g 1 n id h1.1 (fun hx=>h3 (.inl hx)) (.inl ⟨rfl,h1.2.1,by omega⟩)
        exact .step Steps.refl ⟨hr,A1o⟩ rfl rfl (by omega) rfl (fun _=>h1.2.2) (C2U h2 (fun hx=>h3 (.inr hx)))
  · exact Steps.refl
theorem D77{st:A8}{id:ByteArray}{n:Int}(h:Rt st):Steps id st (A4b st id n).1:=by
  unfold A4b
  split
  · rename_i h1
    split
    · rename_i h2
      split
      · exact Steps.refl
      · rename_i h3
        split
        · exact Steps.refl
        · split
          · exact Steps.refl
          · rename_i h5
            split
            · exact Steps.refl
            · rename_i h6
              have hr:=B2w h.g 3 0 id h1 h6 (.inr ⟨.inl rfl,rfl⟩)
              exact .step Steps.refl ⟨hr,A1o⟩ rfl rfl (by omega) rfl (fun e=>by cases e) (C2V h.up h2 h3 h5)
    · exact Steps.refl
  · exact Steps.refl
theorem D78{st:A8}{id:ByteArray}(h:Rt st):Steps id st (A4c st id).1:=by
  unfold A4c
  split
  · rename_i h1
    split
    · rename_i h2
      split
      · exact Steps.refl
      · rename_i h3
        have hr:=B2w h.g 4 0 id h1 h3 (.inr ⟨.inr rfl,rfl⟩)
        exact .step Steps.refl ⟨hr,A1o⟩ rfl rfl (by omega) rfl (fun e=>by cases e) (C2W h2)
    · exact Steps.refl
  · exact Steps.refl
theorem C3k{st:A8}{id:ByteArray}{off:Int}{dat:List Int}(hc:E0V st id off dat):∀ j,j≤nPc dat→Steps id st (putAt st id off dat j)
  | 0,_=>Steps.refl
  | j+1,hj=>by
    have hI:=B6k hc j (by omega)
    obtain ⟨hr,hf,_⟩:=C0V hc hI (by omega)
    have h1:=hc.nx.2
    have h2:=hI.nx
    have h3:=hI.len
    exact .step (C3k hc j (by omega)) ⟨hr,B14 (A6L hc.byt _) _⟩ rfl rfl (by omega) rfl (fun e=>by cases e) hf
theorem E0g{st:A8}{id:ByteArray}{off:Int}{dat:List Int}(h:Rt st)(hb:Byt dat):Steps id st (A6o st id off dat).1:=by
  unfold A6o
  split
  · rename_i h1
    split
    · rename_i h3
      split
      · exact Steps.refl
      · rename_i h4
        split
        · exact Steps.refl
        · rename_i h5
          exact C3k (C0W h hb h1.1 h1.2 h3 h4 h5) _ (Nat.le_refl _)
    · exact Steps.refl
  · exact Steps.refl
theorem C7z{st:A8}(h:GoodS st):Rt st∧A6n st∧F8 st=some (true,())∧A14 st=some (true,()):=by
  have hU:=C7y h
  have hS:=D4V h.dk
  obtain ⟨b,h1,h2,h3⟩:=C3i st hS.1.1 (fun u hu=>(hU.2.2 u hu).2.2.2)
  rw [h3.2 h] at h1 h2
  exact ⟨D4W h hU,E0Z hS.1 hU,h1,h2⟩
def lenOf(st:A8)(id:ByteArray):Int:=if H6 st.2.2.2 id=true then (List.length (rd kUp st.2.2.2 (B5 st.2.2.2 id:Int)).2.2.1:Int) else 0
def A2D(st:A8)(code:Int)(id:ByteArray):N4:=
  if code=2 then (404,-1) else if code=3∨code=4 then (409,lenOf st id) else if code=5 then (507,-1) else if code=6 then (422,-1) else (400,-1)
def E0h(st:A8)(r:U6):N4:=
  if H6 st.2.2.2 r.2.1=true then (if r.1=5∧(rd kUp st.2.2.2 (B5 st.2.2.2 r.2.1:Int)).2.2.2=false then (409,lenOf st r.2.1) else (200,lenOf st r.2.1)) else (404,-1)
def C5W(st:A8)(r:U6)(dat:List Int):A8×N4:=
  if r.1=1 then ((A4a st r.2.1 r.2.2).1,if (A4a st r.2.1 r.2.2).2=0 then (201,0) else A2D st (A4a st r.2.1 r.2.2).2 r.2.1)
  else if r.1=3 then ((A6o st r.2.1 r.2.2 dat).1,if (A6o st r.2.1 r.2.2 dat).2=0 then (204,r.2.2+(dat.length:Int)) else A2D st (A6o st r.2.1 r.2.2 dat).2 r.2.1)
  else if r.1=4 then ((A4b st r.2.1 r.2.2).1,if (A4b st r.2.1 r.2.2).2=0 then (200,-1) else A2D st (A4b st r.2.1 r.2.2).2 r.2.1)
  else if r.1=6 then ((A4c st r.2.1).1,if (A4c st r.2.1).2=0 then (204,-1) else A2D st (A4c st r.2.1).2 r.2.1)
  else (st,E0h st r)
theorem C80{st:A8}{id:ByteArray}{n:Int}(h:¬ (A4a st id n).2=0):(A4a st id n).1=st:=by
  unfold A4a at h ⊢
  split
  · rename_i h1
    rw [if_pos h1] at h
    split
    · rfl
    · rename_i h2
      rw [if_neg h2] at h
      split
      · rfl
      · rename_i h3
        rw [if_neg h3] at h
        exact absurd rfl h
  · rfl
theorem D3A{st:A8}{id:ByteArray}{n:Int}{d:List Int}(h:¬ (A6o st id n d).2=0):(A6o st id n d).1=st:=by
  unfold A6o at h ⊢
  split
  · rename_i h1
    rw [if_pos h1] at h
    split
    · rename_i h2
      rw [if_pos h2] at h
      split
      · rfl
      · rename_i h3
        rw [if_neg h3] at h
        split
        · rfl
        · rename_i h4
          rw [if_neg h4] at h
          exact absurd rfl h
    · rfl
  · rfl
theorem C81{st:A8}{id:ByteArray}{n:Int}(h:¬ (A4b st id n).2=0):(A4b st id n).1=st:=by
  unfold A4b at h ⊢
  split
  · rename_i h1
    rw [if_pos h1] at h
    split
    · rename_i h2
      rw [if_pos h2] at h
      split
      · rfl
      · rename_i h3
        rw [if_neg h3] at h
        split
        · rfl
        · rename_i h4
          rw [if_neg h4] at h
          split
          · rfl
          · rename_i h5
            rw [if_neg h5] at h
            split
            · rfl
            · rename_i h6
              rw [if_neg h6] at h
              exact absurd rfl h
    · rfl
  · rfl
theorem C82{st:A8}{id:ByteArray}(h:¬ (A4c st id).2=0):(A4c st id).1=st:=by
  unfold A4c at h ⊢
  split
  · rename_i h1
    rw [if_pos h1] at h
    split
    · rename_i h2
      rw [if_pos h2] at h
      split
      · rfl
      · rename_i h4
        rw [if_neg h4] at h
        exact absurd rfl h
    · rfl
  · rfl
theorem C83{st:A8}{id:ByteArray}{off:Int}{dat:List Int}(h:Rt st)(hb:Byt dat)(h0:(A6o st id off dat).2=0):lenOf (A6o st id off dat).1 id=off+(dat.length:Int)∧off=lenOf st id∧0≤off:=by
  unfold A6o at h0 ⊢
  split at h0
  · rename_i h1
    rw [if_pos h1]
    split at h0
    · rename_i h3
      rw [if_pos h3]
      split at h0
      · simp at h0
      · rename_i h4
        rw [if_neg h4]
        split at h0
        · simp at h0
        · rename_i h5
          rw [if_neg h5]
          have hc:=C0W h hb h1.1 h1.2 h3 h4 h5
          have hI:=B6k hc _ (Nat.le_refl _)
          have hn:dat.length≤nPc dat*24:=by
            have:¬ nPc dat<nPc dat:=Nat.lt_irrefl _
            rw [B5N] at this
            omega
          have hat:=hc.at'
          refine ⟨?_,?_,by omega⟩
          · unfold lenOf
            rw [if_pos hI.has,hI.val]
            simp only [List.length_append,List.take_of_length_le hn]
            omega
          · unfold lenOf
            rw [if_pos h3]
            exact hat
    · simp at h0
  · simp at h0
theorem C2Y(x:C0)(n:Int)(id:ByteArray)(hU:Ups x.1.2.2.2):M0 x n id=some ((n,lenOf x.1 id),x,()):=by
  have hul:=hU.2.1
  simp only [M0,A6Y,lenOf]
  rw [A7Q x.1.2.2.2 id (by simp only [maxLen];omega)]
  cases hh:H6 x.1.2.2.2 id with
  | false=>
    simp only [Bool.false_eq_true,if_false,bO]
    rw [A0 (show (-1:Int)<0 by omega)]
    rfl
  | true=>
    simp only [if_true,bO]
    rw [A4 (show ¬ (B5 x.1.2.2.2 id:Int)<0 by omega)]
    rfl
theorem A7H(x:C0)(c:Int)(id:ByteArray)(hU:Ups x.1.2.2.2):H9 x c id=some (A2D x.1 c id,x,()):=by
  simp only [H9,A31,C2Y x 409 id hU,A2D,bO]
  by_cases h2:c=2
  · rw [A0 h2,if_pos h2];rfl
  rw [A4 h2,if_neg h2]
  by_cases h3:c=3
  · rw [A0 h3,if_pos (.inl h3)];rfl
  rw [A4 h3]
  by_cases h4:c=4
  · rw [A0 h4,if_pos (.inr h4)];rfl
  rw [A4 h4,if_neg (fun h=>h.elim h3 h4)]
  simp only [cond_false,bO]
  by_cases h5:c=5
  · rw [A0 h5,if_pos h5];rfl
  rw [A4 h5,if_neg h5]
  by_cases h6:c=6
  · rw [A0 h6,if_pos h6];rfl
  rw [A4 h6,if_neg h6]
  rfl
theorem E4O(x:C0)(r:U6)(hU:Ups x.1.2.2.2):A0F x r=some (E0h x.1 r,x,()):=by
  have hul:=hU.2.1
  simp only [A0F,A6Z,C2Y x _ r.2.1 hU,E0h,bO]
  rw [A7Q x.1.2.2.2 r.2.1 (by simp only [maxLen];omega)]
  cases hh:H6 x.1.2.2.2 r.2.1 with
  | false=>
    simp only [Bool.false_eq_true,if_false,bO]
    rw [A0 (show (-1:Int)<0 by omega)]
    rfl
  | true=>
    simp only [if_true,bO]
    rw [A4 (show ¬ (B5 x.1.2.2.2 r.2.1:Int)<0 by omega)]
    simp only [cond_false]
    by_cases h5:r.1=5
    · rw [A0 h5]
      simp only [cond_true,bO]
      cases hd:(rd kUp x.1.2.2.2 (B5 x.1.2.2.2 r.2.1:Int)).2.2.2 with
      | true=>rw [if_neg (fun h=>by cases h.2)];rfl
      | false=>rw [if_pos ⟨h5,rfl⟩];rfl
    · rw [A4 h5,if_neg (fun h=>h5 h.1)]
      rfl
theorem D3B(st:A8)(id:ByteArray)(hU:Ups st.2.2.2):A8F st id=some (if H6 st.2.2.2 id=true then rd kUp st.2.2.2 (B5 st.2.2.2 id:Int) else (⟨#[]⟩,(0,([],false))),H6 st.2.2.2 id,()):=by
  simp only [A8F,C7T]
  rw [C0U st.2.2.2 id hU]
  cases hh:H6 st.2.2.2 id with
  | false=>
    simp only [Bool.false_eq_true,if_false,bO]
    rw [A0 (show (-1:Int)<0 by omega)]
    rfl
  | true=>
    obtain ⟨hlt,hid2⟩:=K6.1 hh
    have hdl:=B2s hU _ (List.getElem_mem hlt)
    rw [← D0 (k:=kUp) hlt] at hdl
    simp only [if_true,bO]
    rw [A4 (show ¬ (B5 st.2.2.2 id:Int)<0 by omega),A0 (show (0:Int)≤(B5 st.2.2.2 id:Int) by omega),A0 (show (B5 st.2.2.2 id:Int)<(st.2.2.2.length:Int) by omega),A0 (by simp;omega),A0 (by simp;omega)]
    simp only [cond_true,cond_false,List.nil_append]
theorem C0X(st:A8)(id:ByteArray)(c:Int)(hU:Ups st.2.2.2):A8G st id c=some (A2D st c id,()):=by
  have hlo:(List.length (if H6 st.2.2.2 id=true then rd kUp st.2.2.2 (B5 st.2.2.2 id:Int) else ((⟨#[]⟩,(0,([],false))):TUp)).2.2.1:Int)=lenOf st id:=by
    unfold lenOf;split<;>rfl
  simp only [A8G,B9T,D3B st id hU,A2D,bO,hlo]
  by_cases h2:c=2
  · rw [A0 h2,if_pos h2];rfl
  rw [A4 h2,if_neg h2]
  by_cases h3:c=3
  · rw [A0 h3,if_pos (.inl h3)];rfl
  rw [A4 h3]
  by_cases h4:c=4
  · rw [A0 h4,if_pos (.inr h4)];rfl
  rw [A4 h4,if_neg (fun h=>h.elim h3 h4)]
  simp only [cond_false,bO]
  by_cases h5:c=5
  · rw [A0 h5,if_pos h5];rfl
  rw [A4 h5,if_neg h5]
  by_cases h6:c=6
  · rw [A0 h6,if_pos h6];rfl
  rw [A4 h6,if_neg h6]
  rfl
theorem E0i(st:A8)(r:U6)(hU:Ups st.2.2.2):A4E st r=some (E0h st r,()):=by
  simp only [A4E,B2l,D3B st r.2.1 hU,E0h,lenOf,bO]
  cases hh:H6 st.2.2.2 r.2.1 with
  | false=>rfl
  | true=>
    simp only [if_true,Bool.not_true,cond_false]
    by_cases h5:r.1=5
    · rw [A0 h5]
      cases hd:(rd kUp st.2.2.2 (B5 st.2.2.2 r.2.1:Int)).2.2.2 with
      | true=>rw [if_neg (fun h=>by cases h.2)];rfl
      | false=>rw [if_pos ⟨h5,rfl⟩];rfl
    · rw [A4 h5,if_neg (fun h=>h5 h.1)]
      rfl
theorem D79(x:C0)(r:U6)(dat:List Int)(hid:r.2.1.size≤maxLen)(h:Rt x.1)(hb:Byt dat)(hd:dat.length≤1048576)(ho:-9223372036854775808≤r.2.2∧r.2.2≤9223372036854775807) :
    V5 x r dat=some ((C5W x.1 r dat).2,((C5W x.1 r dat).1,x.2),()):=by
  have hU:=h.up
  simp only [V5,A3o,C5W]
  by_cases h1:r.1=1
  · rw [A0 h1,if_pos h1,D6x x.1 r.2.1 r.2.2 hid h]
    simp only [cond_true,bO,C3]
    by_cases hz:(A4a x.1 r.2.1 r.2.2).2=0
    · rw [A0 hz,if_pos hz];rfl
    · rw [A4 hz,if_neg hz,C80 hz]
      simp only [Bool.not_false,cond_true]
      have e:=A7H x (A4a x.1 r.2.1 r.2.2).2 r.2.1 hU
      have e':H9 (((x.1.1.1,x.1.1.2),(x.1.2.1,(x.1.2.2.1,x.1.2.2.2))),x.2) (A4a x.1 r.2.1 r.2.2).2 r.2.1=_:=e
      rw [e']
      rfl
  rw [A4 h1,if_neg h1]
  by_cases h3:r.1=3
  · rw [A0 h3,if_pos h3,E0X x.1 r.2.1 r.2.2 dat hid h hb hd ho]
    simp only [cond_true,cond_false,bO]
    have hU2:=(D6w (id:=r.2.1) (off:=r.2.2) (dat:=dat) h hb).1
    rw [C2Y ((A6o x.1 r.2.1 r.2.2 dat).1,x.2) 204 r.2.1 hU2]
    simp only [bO,C3]
    by_cases hz:(A6o x.1 r.2.1 r.2.2 dat).2=0
    · rw [A0 hz,if_pos hz,(C83 h hb hz).1];rfl
    · rw [A4 hz,if_neg hz,D3A hz]
      simp only [Bool.not_false,cond_true]
      have e:=A7H x (A6o x.1 r.2.1 r.2.2 dat).2 r.2.1 hU
      have e':H9 (((x.1.1.1,x.1.1.2),(x.1.2.1,(x.1.2.2.1,x.1.2.2.2))),x.2) (A6o x.1 r.2.1 r.2.2 dat).2 r.2.1=_:=e
      rw [e']
      rfl
  rw [A4 h3,if_neg h3]
  by_cases h4:r.1=4
  · rw [A0 h4,if_pos h4,D6z x.1 r.2.1 r.2.2 hid h]
    simp only [cond_true,cond_false,bO,C3]
    by_cases hz:(A4b x.1 r.2.1 r.2.2).2=0
    · rw [A0 hz,if_pos hz];rfl
    · rw [A4 hz,if_neg hz,C81 hz]
      simp only [Bool.not_false,cond_true]
      have e:=A7H x (A4b x.1 r.2.1 r.2.2).2 r.2.1 hU
      have e':H9 (((x.1.1.1,x.1.1.2),(x.1.2.1,(x.1.2.2.1,x.1.2.2.2))),x.2) (A4b x.1 r.2.1 r.2.2).2 r.2.1=_:=e
      rw [e']
      rfl
  rw [A4 h4,if_neg h4]
  by_cases h6:r.1=6
  · rw [A0 h6,if_pos h6,D71 x.1 r.2.1 hid h]
    simp only [cond_true,cond_false,bO,C3]
    by_cases hz:(A4c x.1 r.2.1).2=0
    · rw [A0 hz,if_pos hz];rfl
    · rw [A4 hz,if_neg hz,C82 hz]
      simp only [Bool.not_false,cond_true]
      have e:=A7H x (A4c x.1 r.2.1).2 r.2.1 hU
      have e':H9 (((x.1.1.1,x.1.1.2),(x.1.2.1,(x.1.2.2.1,x.1.2.2.2))),x.2) (A4c x.1 r.2.1).2 r.2.1=_:=e
      rw [e']
      rfl
  rw [A4 h6,if_neg h6,E4O x r hU]
  rfl
theorem E4P(st:A8)(r:U6)(dat:List Int)(hid:r.2.1.size≤maxLen)(h:Rt st)(hS:A6n st)(hok:F8 st=some (true,()))(hb:Byt dat)(hd:dat.length≤1048576)(ho:-9223372036854775808≤r.2.2∧r.2.2≤9223372036854775807) :
    V9 st r dat=some ((C5W st r dat).1,(C5W st r dat).2,()):=by
  have hU:=h.up
  simp only [V9,A4F,C5W]
  by_cases h1:r.1=1
  · rw [A0 h1,if_pos h1,D6y st r.2.1 r.2.2 hid h hS hok]
    simp only [cond_true,bO,C3]
    by_cases hz:(A4a st r.2.1 r.2.2).2=0
    · rw [A0 hz,if_pos hz];rfl
    · rw [A4 hz,if_neg hz,C80 hz]
      simp only [Bool.not_false,cond_true,C0X st r.2.1 _ hU,bO]
  rw [A4 h1,if_neg h1]
  by_cases h3:r.1=3
  · rw [A0 h3,if_pos h3,E0Y st r.2.1 r.2.2 dat hid h hS hok hb hd ho]
    simp only [cond_true,cond_false,bO,C3]
    by_cases hz:(A6o st r.2.1 r.2.2 dat).2=0
    · rw [A0 hz,if_pos hz]
      have hl:=C83 h hb hz
      have hlo:lenOf st r.2.1≤2000000000:=by
        unfold lenOf
        split
        · rename_i hh
          obtain ⟨hlt,_⟩:=K6.1 hh
          have hdl:=B2s hU _ (List.getElem_mem hlt)
          rw [← D0 (k:=kUp) hlt] at hdl
          omega
        · omega
      rw [w64 (by omega) (by omega)]
      rfl
    · rw [A4 hz,if_neg hz,D3A hz]
      simp only [Bool.not_false,cond_true,C0X st r.2.1 _ hU,bO]
  rw [A4 h3,if_neg h3]
  by_cases h4:r.1=4
  · rw [A0 h4,if_pos h4,D70 st r.2.1 r.2.2 hid h hS hok]
    simp only [cond_true,cond_false,bO,C3]
    by_cases hz:(A4b st r.2.1 r.2.2).2=0
    · rw [A0 hz,if_pos hz];rfl
    · rw [A4 hz,if_neg hz,C81 hz]
      simp only [Bool.not_false,cond_true,C0X st r.2.1 _ hU,bO]
  rw [A4 h4,if_neg h4]
  by_cases h6:r.1=6
  · rw [A0 h6,if_pos h6,D72 st r.2.1 hid h hS hok]
    simp only [cond_true,cond_false,bO,C3]
    by_cases hz:(A4c st r.2.1).2=0
    · rw [A0 hz,if_pos hz];rfl
    · rw [A4 hz,if_neg hz,C82 hz]
      simp only [Bool.not_false,cond_true,C0X st r.2.1 _ hU,bO]
  rw [A4 h6,if_neg h6,E0i st r hU]
  rfl
theorem E6q{w:A6}(h:Sm 1048576 X5 w):E9h w:=
  ⟨D4T (Nat.le_refl _) (Sm.l (Sm.l (Sm.l (Sm.l h)))),(Sm.r (Sm.l h)).1,⟨(Sm.l (Sm.r h)).1,fun c hc=>by
    have h1:Sm 1048576 B2 c:=(Sm.l (Sm.r h)).2 c hc
    have h2:c.1.size≤1048576:=Sm.l h1
    simp only [maxLen];omega⟩,⟨(Sm.l (Sm.r (Sm.r (Sm.r h)))).1,fun a ha=>by
    have h1:Sm 1048576 B8 a:=(Sm.l (Sm.r (Sm.r (Sm.r h)))).2 a ha
    have h2:a.2.1.2.1.size≤1048576:=Sm.l (Sm.r (Sm.l (Sm.r h1)))
    simp only [maxLen];omega⟩,(Sm.l (Sm.r (Sm.r (Sm.r (Sm.r h))))).1⟩
theorem E0j{s:C0}(h:D38 s):B6h s≤4000000000000000:=by
  have h1:=h.1.1.1.1
  have h2:=h.1.1.2.1
  have h3:=h.1.2.1
  have h4:=h.2
  have c1:=A9V (fun u:TUp=>List.length u.2.2.1+3) 2000000003 s.1.2.2.2 (fun u hu=>by have:=h.1.2.2 u hu;omega)
  have c2:=A9V (fun _:B6=>3) 3 s.2 (fun u hu=>Nat.le_refl _)
  have c3:s.1.2.2.2.length*2000000003≤1048576*2000000003:=Nat.mul_le_mul_right _ h3
  unfold B6h C7p E33
  omega
abbrev E8k:K:=(.pair .str (.pair (.rs 5 (.int .u8)) E8))
abbrev E8J:K:=(.pair (.int .i64) (.pair N3 (.rs 5 (.int .u8))))
theorem B3I(k:K){xs:List k.T}{i:Nat}{x:k.T}(h:xs[i]? = some x):rd k xs (i:Int)=x:=by
  obtain ⟨hi,e⟩:=List.getElem?_eq_some_iff.1 h
  rw [D0 (k:=k) hi,e]
def rm{α:Type}(l:List α)(j:Nat):List α:=l.take j++l.drop (j+1)
theorem E0k{α:Type}{l:List α}{j:Nat}{x:α}(h:x∈rm l j):x∈l:=(List.mem_append.1 h).elim List.mem_of_mem_take List.mem_of_mem_drop
theorem C84{α:Type}{l:List α}{j:Nat}(h:j<l.length):(rm l j).length+1=l.length:=by
  simp only [rm,List.length_append,List.length_take,List.length_drop]
  omega
def hOk(n:Nat)(h:B6):Prop:=W4 h.2=true∧0≤h.1∧h.1<(n:Int)
def wOk(n:Nat)(a:D5):Prop:=A36 a.2.1=true∧0≤a.1∧a.1<(n:Int)∧Byt a.2.2∧a.2.2.length≤1048576
def cOk(c:B0):Prop:=L1 c=true∧Byt c.2.1
structure RW (st:A8) (held:List B6) (cls:List B0) (busy:List Bool) (asks:List D5) (tells:List B6) (best:List Int):Prop where
  g:GoodS st
  lh:held.length≤200
  hd:∀ h∈held,hOk cls.length h
  n6:cls.length≤6
  lb:busy.length=cls.length
  lt:best.length=cls.length
  cl:∀ c∈cls,cOk c
  la:asks.length≤60
  ask:∀ a∈asks,wOk cls.length a
  l6:tells.length≤60
  tl:∀ h∈tells,hOk cls.length h
def RWw(w:A6):Prop:=RW w.1.1 w.1.2 w.2.1 w.2.2.1 w.2.2.2.1 w.2.2.2.2.1 w.2.2.2.2.2
theorem B2y{id:ByteArray}{st st':A8}(hs:Steps id st st')(h:GoodS st):GoodS st':=by
  induction hs with
  | refl=>exact h
  | step h1 hr e1 e2 hlt hid _ hf ih=>exact (E0e ih hr e1 e2 hlt hf).1
theorem E4Q{st:A8}{r:U6}{dat:List Int}(h:GoodS st)(hb:Byt dat):GoodS (C5W st r dat).1:=by
  have hR:=D4W h (C7y h)
  unfold C5W
  split
  · exact B2y (D76 hR) h
  · split
    · exact B2y (E0g hR hb) h
    · split
      · exact B2y (D77 hR) h
      · split
        · exact B2y (D78 hR) h
        · exact h
theorem C2Z{st:A8}(h:Ups st.2.2.2)(id:ByteArray):0≤lenOf st id∧lenOf st id≤1000000000:=by
  unfold lenOf
  split
  · rename_i hh
    obtain ⟨hlt,_⟩:=K6.1 hh
    have hg:=h.2.2 _ (List.getElem_mem hlt)
    rw [D0 (k:=kUp) hlt]
    have h1:=hg.1
    have h2:=hg.2.1
    omega
  · omega
theorem B6l{s o:Int}(h1:100≤s)(h2:s≤599)(h3:-1≤o)(h4:o≤1000000000):W4 (s,o)=true:=by
  simp only [W4,Bool.and_eq_true,decide_eq_true_eq]
  omega
theorem A9X{st:A8}(h:Ups st.2.2.2)(c:Int)(id:ByteArray):W4 (A2D st c id)=true:=by
  have hl:=C2Z h id
  unfold A2D
  repeat' split
  all_goals exact B6l (by omega) (by omega) (by omega) (by omega)
theorem E8K{st:A8}(h:Ups st.2.2.2)(r:U6):W4 (E0h st r)=true:=by
  have hl:=C2Z h r.2.1
  unfold E0h
  repeat' split
  all_goals exact B6l (by omega) (by omega) (by omega) (by omega)
theorem E4R{st:A8}{r:U6}{dat:List Int}(h:GoodS st)(hb:Byt dat):W4 (C5W st r dat).2=true:=by
  have hU:=C7y h
  have hR:=D4W h hU
  unfold C5W
  split
  · simp only
    split
    · exact B6l (by omega) (by omega) (by omega) (by omega)
    · exact A9X hU _ _
  · split
    · simp only
      split
      · rename_i hz
        obtain ⟨q1,q2,q3⟩:=C83 hR hb hz
        have hl:=C2Z (D6w (id:=r.2.1) (off:=r.2.2) (dat:=dat) hR hb).1 r.2.1
        exact B6l (by omega) (by omega) (by omega) (by omega)
      · exact A9X hU _ _
    · split
      · simp only
        split
        · exact B6l (by omega) (by omega) (by omega) (by omega)
        · exact A9X hU _ _
      · split
        · simp only
          split
          · exact B6l (by omega) (by omega) (by omega) (by omega)
          · exact A9X hU _ _
        · exact E8K hU r
theorem E0l{st:A8}(h:GoodS st):GoodS ((st.1.1,st.1.1),st.2):=(E0f h).g
theorem A59{c:B0}(h:cOk c):c.1.size≤8∧c.2.1.length≤400∧idB c.1=true∧1≤c.2.2.1∧c.2.2.1≤6∧0≤c.2.2.2∧c.2.2.2≤(c.2.1.length:Int):=by
  have h1:=h.1
  simp only [L1,Bool.and_eq_true,decide_eq_true_eq] at h1
  have:=D6t h1.1.1.1
  refine ⟨this,by omega,h1.1.1.1,?_⟩
  omega
theorem C85{c:B0}(h:cOk c):c.1.size≤maxLen:=by
  have:=(A59 h).1
  simp only [maxLen];omega
theorem D4X{c:B0}(h:cOk c){s o:Int}(h1:1≤s)(h2:s≤6)(h3:0≤o)(h4:o≤(c.2.1.length:Int)):cOk (c.1,c.2.1,s,o):=by
  obtain ⟨_,g2,g3,_⟩:=A59 h
  refine ⟨?_,h.2⟩
  simp only [L1,Bool.and_eq_true,decide_eq_true_eq]
  exact ⟨⟨⟨g3,by omega⟩,by omega⟩,by omega⟩
theorem E8L{c:B0}(h:cOk c)(o:Int):cOk (far c o):=by
  obtain ⟨_,_,_,_,_,h3,h4⟩:=A59 h
  unfold far
  split
  · rename_i hr
    split
    · exact D4X h (by omega) (by omega) hr.1 hr.2
    · exact D4X h (by omega) (by omega) hr.1 hr.2
  · exact D4X h (by omega) (by omega) h3 h4
theorem D4Y(s t:Int)(h1:1≤s)(h2:s≤6):0≤A4G s t∧A4G s t≤6:=by
  unfold A4G
  repeat' split
  all_goals omega
theorem E6r{c:B0}(h:cOk c)(r:N4):cOk (hear c r):=by
  obtain ⟨_,_,_,h1,h2,h3,h4⟩:=A59 h
  unfold hear
  split
  · exact E8L h _
  · rename_i hne
    have:=D4Y c.2.2.1 r.1 h1 h2
    exact D4X h (by omega) (by omega) h3 h4
theorem E6s{r:U6}(h:A36 r=true):r.2.1.size≤8∧(0≤r.2.2∧r.2.2≤4294967295):=by
  simp only [A36,Bool.and_eq_true,decide_eq_true_eq] at h
  refine ⟨D6t h.1.2,h.2.1,?_⟩
  have:=h.2.2
  unfold C0R at this
  split at this
  · omega
  · split at this
    · omega
    · split at this
      · omega
      · omega
theorem E0m{c:B0}(h:cOk c){r:U6}{d:List Int}(hq:W0 c=(r,d,true,())):A36 r=true∧Byt d∧d.length≤1048576:=by
  obtain ⟨_,h400,hid,h1,h2,h3,h4⟩:=A59 h
  have hl:=D6b c
  rw [hq] at hl
  have hl':d.length≤c.2.1.length:=hl
  have hcrc:=B6e h.2
  have hx:B0S c.2.1 ^^^ 4294967295<2 ^ 32:=Nat.xor_lt_two_pow hcrc (by omega)
  have mk:∀ (op n:Int),1≤op→op≤6→0≤n→n≤C0R op→A36 (op,c.1,n)=true:=fun op n g1 g2 g3 g4=>by
    simp only [A36,Bool.and_eq_true,decide_eq_true_eq]
    exact ⟨⟨by omega,hid⟩,by omega⟩
  have key:(W0 c).2.2.1=true→A36 (W0 c).1=true∧Byt (W0 c).2.1:=by
    unfold W0
    rw [h.1]
    simp only [Bool.true_eq_false,if_false]
    split
    · exact fun _=>⟨mk 1 _ (by omega) (by omega) (by omega) (by show _≤(1000000000:Int);omega),A1o⟩
    · split
      · exact fun _=>⟨mk 2 _ (by omega) (by omega) (by omega) (by show _≤(0:Int);omega),A1o⟩
      · split
        · exact fun _=>⟨mk 3 _ (by omega) (by omega) (by omega) (by show _≤(1000000000:Int);omega),B14 (A6L h.2 _) _⟩
        · split
          · exact fun _=>⟨mk 4 _ (by omega) (by omega) (by omega) (by show _≤(4294967295:Int);omega),A1o⟩
          · exact fun e=>by cases e
  rw [hq] at key
  obtain ⟨k1,k2⟩:=key rfl
  exact ⟨k1,k2,by omega⟩
theorem E8M(w:A6)(h:E4D w)(hok:T7 w=some (true,()))(i0:Nat)(hi0:i0<w.2.1.length):L1 (rd B2 w.2.1 (i0:Int))=true:=by
  cases hc:L1 (rd B2 w.2.1 (i0:Int)) with
  | true=>rfl
  | false=>
    exfalso
    have hl:=h.1
    obtain ⟨z,e,hz⟩:=A3M (I4 I8 w) (fun l=>((i0:Int)-l.1).toNat) (fun l=>0≤l.1∧l.1≤(i0:Int)) (fun z=>z=.inr (false,())) (fun l hl=>by
      obtain ⟨l1,u⟩:=l
      obtain ⟨h0,h1⟩:=hl
      simp only at h0 h1
      obtain ⟨i,rfl⟩:∃ i:Nat,l1=(i:Int):=⟨l1.toNat,by omega⟩
      have hi':i<w.2.1.length:=by omega
      have hsz:(rd B2 w.2.1 (i:Int)).1.size≤maxLen:=by
        rw [D0 (k:=B2) (xs:=w.2.1) hi']
        exact h.2 _ (List.getElem_mem hi')
      simp only [I4]
      rw [A0 (show (i:Int)<(w.2.1.length:Int) by omega),A0 h0,B0Q _ hsz]
      simp only [cond_true,A3]
      by_cases hii:i=i0
      · subst hii
        rw [hc]
        exact .inr ⟨_,rfl,rfl⟩
      · cases L1 (rd B2 w.2.1 (i:Int)) with
        | false=>exact .inr ⟨_,rfl,rfl⟩
        | true=>
          obtain ⟨z,e,hz⟩:=C3g w h i hi'
          simp only [Bool.not_true,cond_false]
          rw [e]
          rcases hz with rfl | rfl
          · exact .inl ⟨_,rfl,by simp only;omega,by simp only;omega⟩
          · exact .inr ⟨_,rfl,rfl⟩) (0,()) (by simp)
    subst hz
    simp only [T7,A4C,e,C3] at hok
    injection hok with hok;injection hok with hok;cases hok
theorem C86{n:Nat}{l:List B6}(h:A1O n l=true):∀ x∈l,hOk n x:=fun x hx=>by
  obtain ⟨i,hi,rfl⟩:=List.getElem_of_mem hx
  have:=List.all_eq_true.1 h i (List.mem_range.2 hi)
  rw [D0 (k:=A9) (xs:=l) hi] at this
  simp only [D39,Bool.and_eq_true,decide_eq_true_eq] at this
  exact ⟨this.1,by omega,by omega⟩
theorem E6t(w:A6)(hs:Sm 1048576 X5 w)(hu:∀ u∈w.1.1.2.2.2,Byt u.2.2.1)(hcb:∀ c∈w.2.1,Byt c.2.1)(hab:∀ a∈w.2.2.2.1,Byt a.2.2)(hok:Z2 w=some (true,())):RWw w:=by
  have hM:(1048576:Nat)≤maxLen:=by simp only [maxLen];omega
  have hWor:=E6q hs
  obtain ⟨h1,h2,h3,⟨h4,h4'⟩,h5⟩:=hWor
  have hc:=h3.1
  obtain ⟨bs,es,ei,hbs⟩:=C3f w.1 h1 h2
  obtain ⟨bc,cs,ci,hbc⟩:=C7t w h3
  have ht:=C0S w w.2.2.2.2.1 (by simp only [maxLen];omega) hc
  have hh:=C0S w w.1.2 (by simp only [maxLen];omega) hc
  have hloop:=C3a (X1 A50 E4 w) w.2.2.2.1.length (by simp only [maxLen];omega) (fun i=>C3h w.2.1.length (rd B8 w.2.2.2.1 (i:Int))) (fun i hi=>by
    have g1:((i:Int)<(w.2.2.2.1.length:Int)):=by omega
    have g2:(0:Int)≤(i:Int):=by omega
    have hsz:(rd B8 w.2.2.2.1 (i:Int)).2.1.2.1.size≤maxLen:=by
      rw [D0 (k:=B8) (xs:=w.2.2.2.1) hi]
      exact h4' _ (List.getElem_mem hi)
    simp only [X1,A0 g1,A0 g2,cond_true,Q7,C7r _ hsz,A3,C3h]
    rw [w64 (n:=(w.2.1.length:Int)-1) (by omega) (by omega)]
    cases decide (0≤(rd B8 w.2.2.2.1 (i:Int)).1∧(rd B8 w.2.2.2.1 (i:Int)).1≤(w.2.1.length:Int)-1)<;>cases A36 (rd B8 w.2.2.2.1 (i:Int)).2.1<;>rfl) (by simp [X1])
  simp only [Z2,A9G,es,cs,ht,hh,hloop,A3] at hok
  have no:∀ {x:Bool},some (x,())=some (true,())→x=true:=fun h=>by injection h with h;injection h
  cases bs with
  | false=>exact absurd (no hok) (by simp)
  | true=>
  cases bc with
  | false=>exact absurd (no hok) (by simp)
  | true=>
  simp only [Bool.not_true,cond_false] at hok
  by_cases ga:(w.2.2.2.1.length:Int)>60
  · rw [A0 ga] at hok;exact absurd (no hok) (by simp)
  rw [A4 ga] at hok
  simp only [cond_false] at hok
  by_cases gt:(w.2.2.2.2.1.length:Int)>60
  · rw [A0 gt] at hok;exact absurd (no hok) (by simp)
  rw [A4 gt] at hok
  simp only [cond_false] at hok
  cases e1:A1O w.2.1.length w.2.2.2.2.1 with
  | false=>rw [e1] at hok;exact absurd (no hok) (by simp)
  | true=>
  rw [e1] at hok
  simp only [Bool.not_true,cond_false] at hok
  cases e2:A1O w.2.1.length w.1.2 with
  | false=>rw [e2] at hok;exact absurd (no hok) (by simp)
  | true=>
  rw [e2] at hok
  simp only [Bool.not_true,cond_false] at hok
  have hall:=no hok
  obtain ⟨k1,k2,k3⟩:=hbs rfl
  obtain ⟨n6,n2,n3⟩:=hbc rfl
  obtain ⟨b,s1,_,s3⟩:=C3i w.1.1 h1 hu
  rw [k1] at s1
  injection s1 with s1;injection s1 with s1
  refine {g:=s3.1 s1.symm,lh:=k3,hd:=C86 e2,n6:=n6,lb:=n2,lt:=n3,cl:=fun c hx=>⟨?_,hcb c hx⟩,la:=by omega,ask:=fun a ha=>?_,l6:=by omega,tl:=C86 e1}
  · obtain ⟨i,hi,rfl⟩:=List.getElem_of_mem hx
    have:=E8M w h3 cs i hi
    rw [D0 (k:=B2) (xs:=w.2.1) hi] at this
    exact this
  · have hm:Sm 1048576 B8 a:=(Sm.l (Sm.r (Sm.r (Sm.r hs)))).2 a ha
    obtain ⟨i,hi,rfl⟩:=List.getElem_of_mem ha
    have:=List.all_eq_true.1 hall i (List.mem_range.2 hi)
    rw [D0 (k:=B8) (xs:=w.2.2.2.1) hi] at this
    simp only [C3h,Bool.and_eq_true,decide_eq_true_eq] at this
    exact ⟨this.1,by omega,by omega,hab _ (List.getElem_mem hi),(Sm.r (Sm.r hm)).1⟩
def E8N(w:A6):Prop:=Sm maxLen Z8 w∧E9i w∧C7u w≤4100000000000000
theorem E37{st:A8}{held:List B6}{cls:List B0}{busy:List Bool}{asks:List D5}{tells:List B6}{best:List Int}(hS:A6n st)(hu:∀ u∈st.2.2.2,u.1.size≤1048576)(h1:held.length≤1048576)(h2:cls.length≤1048576)(hc:∀ c∈cls,c.1.size≤1048576∧c.2.1.length≤1048576)
    (h3:busy.length≤1048576) (h4:asks.length≤1048576) (ha:∀ a∈asks,a.2.1.2.1.size≤1048576∧a.2.2.length≤1048576) (h5:tells.length≤1048576) (h6:best.length≤1048576):E8N (((st,held),(cls,(busy,(asks,(tells,best))))):A6):=by
  have hM:(2000000000:Nat)≤maxLen:=by simp only [maxLen];omega
  have secs:∀ {l:List ByteArray},B5K l→Sm maxLen (.sl 9 .str) l:=fun h=>⟨by have:=h.1;omega,fun s hs=>by have:=h.2 s hs;show s.size≤_;omega⟩
  have sv:D38 (st,held):=⟨hS,h1⟩
  have nv:=E0j sv
  have c1:=A9V (fun u:B0=>List.length u.2.1+3) 1048579 cls (fun u hu=>by have:=(hc u hu).2;omega)
  have c2:=A9V (fun _:Bool=>1) 1 busy (fun u hu=>Nat.le_refl _)
  have c3:=A9V (fun u:D5=>List.length u.2.2+4) 1048580 asks (fun u hu=>by have:=(ha u hu).2;omega)
  have c4:=A9V (fun _:B6=>3) 3 tells (fun u hu=>Nat.le_refl _)
  have c5:=A9V (fun _:Int=>1) 1 best (fun u hu=>Nat.le_refl _)
  have e1:cls.length*1048579≤1048576*1048579:=Nat.mul_le_mul_right _ h2
  have e3:asks.length*1048580≤1048576*1048580:=Nat.mul_le_mul_right _ h4
  refine ⟨⟨⟨⟨⟨secs hS.1.1,secs hS.1.2⟩,trivial,trivial,⟨by have:=hS.2.1;show List.length st.2.2.2≤_;omega,fun u hm=>?_⟩⟩,⟨by show held.length≤_;omega,fun x _=>⟨trivial,trivial,trivial⟩⟩⟩,⟨by show cls.length≤_;omega,fun x hx=>?_⟩,⟨by show busy.length≤_;omega,fun _ _=>trivial⟩,⟨by show asks.length≤_;omega,fun x hx=>?_⟩,⟨by show tells.length≤_;omega,fun x _=>⟨trivial,trivial,trivial⟩⟩,⟨by show best.length≤_;omega,fun _ _=>trivial⟩⟩,⟨hS.2.1,h1,h2,h3,h4,h5,h6⟩,?_⟩
  · have g1:=hu u hm
    have g2:=hS.2.2 u hm
    exact ⟨by show u.1.size≤_;omega,trivial,⟨by show List.length u.2.2.1≤_;omega,fun _ _=>trivial⟩,trivial⟩
  · obtain ⟨g1,g2⟩:=hc x hx
    exact ⟨by show x.1.size≤_;omega,⟨by show x.2.1.length≤_;omega,fun _ _=>trivial⟩,trivial,trivial⟩
  · obtain ⟨g1,g2⟩:=ha x hx
    exact ⟨trivial,⟨trivial,by show x.2.1.2.1.size≤_;omega,trivial⟩,⟨by show List.length x.2.2≤_;omega,fun _ _=>trivial⟩⟩
  · simp only [C7u]
    omega
theorem E9j{w:A6}(h:RWw w):E8N w:=by
  obtain ⟨⟨st,held⟩,cls,busy,asks,tells,best⟩:=w
  unfold RWw at h
  simp only at h
  obtain ⟨hR,hS,_⟩:=C7z h.g
  have hU:=hR.up
  have hn:=h.n6
  have hlb:=h.lb
  have hlt:=h.lt
  have h60:=h.la
  have h6:=h.l6
  have h200:=h.lh
  exact E37 hS (fun u hu=>by have:=(hU.2.2 u hu).2.2.1;omega) (by omega) (by omega) (fun c hc=>by have:=A59 (h.cl c hc);omega) (by omega) (by omega) (fun a ha=>by
    obtain ⟨g1,_,_,_,g5⟩:=h.ask a ha
    have:=(E6s g1).1
    omega) (by omega) (by omega)
theorem E38{w:A6}(hs:Sm 1048576 X5 w):E8N w:=by
  obtain ⟨⟨st,held⟩,cls,busy,asks,tells,best⟩:=w
  have hS:=E34 (Nat.le_refl _) (Sm.l hs)
  have hup:Sm 1048576 (.sl 0 kUp) st.2.2.2:=Sm.r (Sm.r (Sm.r (Sm.l (Sm.l hs))))
  have hcl:Sm 1048576 (.sl 0 B2) cls:=Sm.l (Sm.r hs)
  have hbu:Sm 1048576 (.sl 0 .bool) busy:=Sm.l (Sm.r (Sm.r hs))
  have has:Sm 1048576 (.sl 0 B8) asks:=Sm.l (Sm.r (Sm.r (Sm.r hs)))
  have hte:Sm 1048576 (.sl 0 A9) tells:=Sm.l (Sm.r (Sm.r (Sm.r (Sm.r hs))))
  have hbe:Sm 1048576 (.sl 0 (.int .i64)) best:=Sm.r (Sm.r (Sm.r (Sm.r (Sm.r hs))))
  exact E37 hS.1 (fun u hu=>Sm.l (hup.2 u hu)) hS.2 hcl.1 (fun c hc=>by
    have h1:Sm 1048576 B2 c:=hcl.2 c hc
    exact ⟨Sm.l h1,(Sm.l (Sm.r h1)).1⟩) hbu.1 has.1 (fun a ha=>by
    have h1:Sm 1048576 B8 a:=has.2 a ha
    exact ⟨Sm.l (Sm.r (Sm.l (Sm.r h1))),(Sm.r (Sm.r h1)).1⟩) hte.1 hbe.1
def A9Y(w:A6)(i:Int):Bool×A6:=
  if 0≤i∧i<(w.2.1.length:Int)∧rd .bool w.2.2.1 i=false∧¬ (w.2.2.2.1.length:Int)=60∧(W0 (rd B2 w.2.1 i)).2.2.1=true then
    (true,(w.1,(w.2.1,(w.2.2.1.set i.toNat true,(w.2.2.2.1 ++ [(i,((W0 (rd B2 w.2.1 i)).1,(W0 (rd B2 w.2.1 i)).2.1))],w.2.2.2.2)))))
  else (false,w)
def R9(w:A6)(j:Int):Bool×A6:=
  if 0≤j∧j<(w.2.2.2.1.length:Int)∧¬ (w.1.2.length:Int)=200 then
    (true,(((C5W w.1.1 (rd B8 w.2.2.2.1 j).2.1 (rd B8 w.2.2.2.1 j).2.2).1,w.1.2 ++ [((rd B8 w.2.2.2.1 j).1,(C5W w.1.1 (rd B8 w.2.2.2.1 j).2.1 (rd B8 w.2.2.2.1 j).2.2).2)]),(w.2.1,(w.2.2.1,(rm w.2.2.2.1 j.toNat,w.2.2.2.2)))))
  else (false,w)
def B3J(w:A6):Bool×A6:=
  if (w.2.2.2.2.1.length:Int)+(w.1.2.length:Int)>60 then (false,w)
  else (true,((((w.1.1.1.1,w.1.1.1.1),w.1.1.2),[]),(w.2.1,(w.2.2.1,(w.2.2.2.1,(w.2.2.2.2.1++w.1.2,w.2.2.2.2.2))))))
def E6u(a b:Int):Int:=bif decide (b>a) then b else a
def A0O(w:A6)(j:Int):Bool×A6:=
  if 0≤j∧j<(w.2.2.2.2.1.length:Int) then
    if rd .bool w.2.2.1 (rd A9 w.2.2.2.2.1 j).1=true then
      (true,(w.1,(w.2.1.set (rd A9 w.2.2.2.2.1 j).1.toNat (A2C (rd B2 w.2.1 (rd A9 w.2.2.2.2.1 j).1) (rd A9 w.2.2.2.2.1 j).2),(w.2.2.1.set (rd A9 w.2.2.2.2.1 j).1.toNat false,(w.2.2.2.1,(rm w.2.2.2.2.1 j.toNat,w.2.2.2.2.2.set (rd A9 w.2.2.2.2.1 j).1.toNat (E6u (rd (.int .i64) w.2.2.2.2.2 (rd A9 w.2.2.2.2.1 j).1) (rd A9 w.2.2.2.2.1 j).2.2)))))))
    else (true,(w.1,(w.2.1,(w.2.2.1,(w.2.2.2.1,(rm w.2.2.2.2.1 j.toNat,w.2.2.2.2.2))))))
  else (false,w)
theorem E8O{w:A6}(h:RWw w)(i:Int):RWw (A9Y w i).2:=by
  unfold A9Y
  split
  · rename_i hc
    obtain ⟨h0,h1,h2,h3,h4⟩:=hc
    obtain ⟨⟨st,held⟩,cls,busy,asks,tells,best⟩:=w
    simp only at h0 h1 h2 h3 h4 ⊢
    unfold RWw at h ⊢
    simp only at h ⊢
    obtain ⟨i,rfl⟩:∃ j:Nat,i=(j:Int):=⟨i.toNat,by omega⟩
    have hi:i<cls.length:=by omega
    rw [D0 (k:=B2) (xs:=cls) hi] at h4 ⊢
    have hla:=h.la
    obtain ⟨k1,k2,k3⟩:=E0m (h.cl _ (List.getElem_mem hi)) (r:=(W0 cls[i]).1) (d:=(W0 cls[i]).2.1) (by rw [← h4])
    refine {h with lb:=by rw [List.length_set];exact h.lb,la:=by simp only [List.length_append,List.length_cons,List.length_nil];omega,ask:=fun a ha=>?_}
    rcases List.mem_append.1 ha with ha | ha
    · exact h.ask a ha
    · rw [List.mem_singleton.1 ha]
      exact ⟨k1,by show (0:Int)≤(i:Int);omega,by show (i:Int)<_;omega,k2,k3⟩
  · exact h
theorem C87{w:A6}(h:RWw w)(j:Int):RWw (R9 w j).2:=by
  unfold R9
  split
  · rename_i hc
    obtain ⟨h0,h1,h2⟩:=hc
    obtain ⟨⟨st,held⟩,cls,busy,asks,tells,best⟩:=w
    simp only at h0 h1 h2 ⊢
    unfold RWw at h ⊢
    simp only at h ⊢
    obtain ⟨j,rfl⟩:∃ q:Nat,j=(q:Int):=⟨j.toNat,by omega⟩
    have hj:j<asks.length:=by omega
    rw [D0 (k:=B8) (xs:=asks) hj]
    obtain ⟨g1,g2,g3,g4,g5⟩:=h.ask _ (List.getElem_mem hj)
    have hlh:=h.lh
    have hla:=h.la
    rw [Int.toNat_natCast]
    have hrl:=C84 hj
    refine {h with g:=E4Q h.g g4,lh:=by simp only [List.length_append,List.length_cons,List.length_nil];omega,hd:=fun x hx=>?_,la:=by omega,ask:=fun x hx=>h.ask x (E0k hx)}
    rcases List.mem_append.1 hx with hx | hx
    · exact h.hd x hx
    · rw [List.mem_singleton.1 hx]
      exact ⟨E4R h.g g4,g2,g3⟩
  · exact h
theorem E8P{w:A6}(h:RWw w):RWw (B3J w).2:=by
  unfold B3J
  split
  · exact h
  · rename_i hc
    obtain ⟨⟨st,held⟩,cls,busy,asks,tells,best⟩:=w
    simp only at hc ⊢
    unfold RWw at h ⊢
    simp only at h ⊢
    exact {h with g:=E0l h.g,lh:=by simp,hd:=fun x hx=>(by cases hx),l6:=by simp only [List.length_append];omega,tl:=fun x hx=>(List.mem_append.1 hx).elim (h.tl x) (h.hd x)}
theorem D4Z{c:B0}(h:cOk c)(r:N4):cOk (A2C c r):=by
  unfold A2C
  split
  · exact E6r h r
  · exact h
theorem E8Q{α:Type}{l:List α}{i:Nat}{v x:α}(h:x∈l.set i v):x∈l∨x=v:=List.mem_or_eq_of_mem_set h
theorem D4a{w:A6}(h:RWw w)(j:Int):RWw (A0O w j).2:=by
  unfold A0O
  split
  · rename_i hc
    obtain ⟨h0,h1⟩:=hc
    obtain ⟨⟨st,held⟩,cls,busy,asks,tells,best⟩:=w
    simp only at h0 h1 ⊢
    obtain ⟨j,rfl⟩:∃ q:Nat,j=(q:Int):=⟨j.toNat,by omega⟩
    have hj:j<tells.length:=by omega
    have hrl:=C84 hj
    have hl6:=h.l6
    simp only at hl6
    rw [D0 (k:=A9) (xs:=tells) hj,Int.toNat_natCast]
    have hh:=h.tl _ (List.getElem_mem hj)
    simp only at hh
    obtain ⟨g1,g2,g3⟩:=hh
    split
    · unfold RWw at h ⊢
      simp only at h ⊢
      have hlen:(cls.set tells[j].1.toNat (A2C (rd B2 cls tells[j].1) tells[j].2)).length=cls.length:=List.length_set
      refine {h with n6:=by rw [hlen];exact h.n6,lb:=by rw [hlen,List.length_set];exact h.lb,lt:=by rw [hlen,List.length_set];exact h.lt,cl:=fun c hc=>?_,ask:=fun a ha=>by rw [hlen];exact h.ask a ha,hd:=fun a ha=>by rw [hlen];exact h.hd a ha,tl:=fun a ha=>by rw [hlen];exact h.tl a (E0k ha),l6:=by omega}
      rcases E8Q hc with hc | hc
      · exact h.cl c hc
      · rw [hc]
        refine D4Z ?_ _
        obtain ⟨i,hi⟩:∃ i:Nat,tells[j].1=(i:Int):=⟨tells[j].1.toNat,by omega⟩
        rw [hi,D0 (k:=B2) (xs:=cls) (by omega)]
        exact h.cl _ (List.getElem_mem _)
    · unfold RWw at h ⊢
      simp only at h ⊢
      exact {h with l6:=by omega,tl:=fun a ha=>h.tl a (E0k ha)}
  · exact h
theorem E6v{α:Type}{l:List α}{j:Nat}(h:j<l.length):B3D l (j:Int) ((j:Int)+1)=some (rm l j,()):=by
  unfold B3D
  rw [A0 (show (0:Int)≤(j:Int) by omega),A0 (show (j:Int)<(j:Int)+1 by omega),A0 (show (j:Int)+1≤(l.length:Int) by omega)]
  simp only [cond_true]
  rw [Int.toNat_natCast,show ((j:Int)+1).toNat=j+1 by omega]
  rfl
theorem E6w{α:Type}{l:List α}{j:Nat}:([]++(l.take j).drop 0)++(l.take l.length).drop ((j:Int)+1).toNat=rm l j:=by
  unfold rm
  rw [show ((j:Int)+1).toNat=j+1 by omega,List.drop_zero,List.take_length]
  rfl
theorem E39{w:A6}(h:RWw w)(i:Int):A16 w i=some ((A9Y w i).1,(A9Y w i).2,())∧P9 w i=some ((A9Y w i).1,(A9Y w i).2,()):=by
  obtain ⟨⟨st,held⟩,cls,busy,asks,tells,best⟩:=w
  unfold RWw at h
  simp only at h
  have hn:=h.n6
  have hlb:=h.lb
  have hla:=h.la
  simp only [A16,A7m,P9,B0O,K7,Q7,bO,A9Y]
  rw [w64 (n:=(cls.length:Int)-1) (by omega) (by omega)]
  by_cases hr:0≤i∧i≤(cls.length:Int)-1
  · obtain ⟨i,rfl⟩:∃ j:Nat,i=(j:Int):=⟨i.toNat,by omega⟩
    have hic:i<cls.length:=by omega
    obtain ⟨cl,hcl⟩:∃ x,cls[i]? = some x:=⟨_,List.getElem?_eq_getElem hic⟩
    obtain ⟨b,hb⟩:∃ x,busy[i]? = some x:=⟨_,List.getElem?_eq_getElem (by omega)⟩
    have hg:=h.cl cl (List.mem_of_getElem? hcl)
    rw [A0 hr,A0 (show (0:Int)≤(i:Int) by omega),A0 (show (i:Int)<(busy.length:Int) by omega),A0 (show (i:Int)<(cls.length:Int) by omega),B3I .bool hb,B3I E8k hcl,B3I B2 hcl,D4N cl (C85 hg) hg.2,D4M cl (C85 hg) hg.2]
    simp only [Bool.not_true,cond_false,cond_true]
    cases b with
    | true=>
      rw [if_neg (fun hx=>by have:=hx.2.2.1;cases this)]
      exact ⟨rfl,rfl⟩
    | false=>
      simp only [cond_false]
      by_cases h60:(asks.length:Int)=60
      · rw [A0 h60,A0 (show (asks.length:Int)≥60 by omega),if_neg (fun hx=>hx.2.2.2.1 h60)]
        exact ⟨rfl,rfl⟩
      · rw [A4 h60,A4 (show ¬ (asks.length:Int)≥60 by omega)]
        simp only [cond_false,C3,bO]
        generalize W0 cl=q
        obtain ⟨r,dat,ok,u⟩:=q
        cases ok with
        | false=>
          rw [if_neg (fun hx=>by have:=hx.2.2.2.2;cases this)]
          exact ⟨rfl,rfl⟩
        | true=>
          rw [if_pos ⟨by omega,by omega,trivial,h60,rfl⟩]
          simp only [Bool.not_true,cond_false,cond_true]
          rw [A0 (by simp;omega),A0 (by simp;omega)]
          exact ⟨rfl,rfl⟩
  · rw [A4 hr,if_neg (fun hx=>hr ⟨hx.1,by omega⟩)]
    exact ⟨rfl,rfl⟩
theorem C2a{w:A6}(h:RWw w)(j:Int):A0G w j=some ((R9 w j).1,(R9 w j).2,())∧N9 w j=some ((R9 w j).1,(R9 w j).2,()):=by
  obtain ⟨⟨st,held⟩,cls,busy,asks,tells,best⟩:=w
  unfold RWw at h
  simp only at h
  have hla:=h.la
  have hlh:=h.lh
  obtain ⟨hR,hS,hok,_⟩:=C7z h.g
  simp only [A0G,A6a,N9,A8I,K7,Q7,bO,R9]
  rw [w64 (n:=(asks.length:Int)-1) (by omega) (by omega)]
  by_cases hr:0≤j∧j≤(asks.length:Int)-1
  · obtain ⟨j,rfl⟩:∃ q:Nat,j=(q:Int):=⟨j.toNat,by omega⟩
    have hjl:j<asks.length:=by omega
    obtain ⟨a,ha⟩:∃ x,asks[j]? = some x:=⟨_,List.getElem?_eq_getElem hjl⟩
    obtain ⟨g1,g2,g3,g4,g5⟩:=h.ask a (List.mem_of_getElem? ha)
    obtain ⟨q1,q2,q3⟩:=E6s g1
    have hid:a.2.1.2.1.size≤maxLen:=by simp only [maxLen];omega
    have ho:-9223372036854775808≤a.2.1.2.2∧a.2.1.2.2≤9223372036854775807:=by omega
    rw [A0 hr,A0 (show (0:Int)≤(j:Int) by omega),A0 (show (j:Int)<(asks.length:Int) by omega),A0 (show (j:Int)≤(asks.length:Int) by omega),B3I E8J ha,B3I B8 ha,w64 (n:=(j:Int)+1) (by omega) (by omega)]
    simp only [Bool.not_true,cond_false,cond_true,A1g,A4u,C7s a.2.1 hid,g1,bO]
    by_cases h200:(held.length:Int)=200
    · rw [A0 h200,A0 (show (held.length:Int)≥200 by omega),if_neg (fun hx=>hx.2.2 h200)]
      exact ⟨rfl,rfl⟩
    · rw [A4 h200,A4 (show ¬ (held.length:Int)≥200 by omega),if_pos ⟨by omega,by omega,h200⟩]
      have e1:=E4P st a.2.1 a.2.2 hid hR hS hok g4 g5 ho
      have e2:=D79 (st,held) a.2.1 a.2.2 hid hR g4 g5 ho
      simp only [cond_false,C3,e1,e2,bO,H3,E6v hjl,E6w,Int.toNat_natCast]
      rw [A0 (by simp;omega),A0 (by simp;omega),A0 (show (0:Int)≤(j:Int)+1 by omega),A0 (show (j:Int)+1≤(asks.length:Int) by omega),A0 (by simp;omega),A0 (by simp;omega),A0 (by simp;omega),A0 (by simp;omega)]
      exact ⟨rfl,rfl⟩
  · rw [A4 hr,if_neg (fun hx=>hr ⟨hx.1,by omega⟩)]
    exact ⟨rfl,rfl⟩
theorem D7A{w:A6}(h:RWw w):A17 w=some ((B3J w).1,(B3J w).2,())∧A3L w=some ((B3J w).1,(B3J w).2,()):=by
  obtain ⟨⟨st,held⟩,cls,busy,asks,tells,best⟩:=w
  unfold RWw at h
  simp only at h
  have hl6:=h.l6
  have hlh:=h.lh
  obtain ⟨hR,hS,_⟩:=C7z h.g
  simp only [A17,A7o,A3L,B55,A05,A32,B3J,E0P st.1 hS.1,E0Q st.1 hS.1,bO]
  rw [w64 (n:=(tells.length:Int)+(held.length:Int)) (by omega) (by omega)]
  by_cases h60:(tells.length:Int)+(held.length:Int)>60
  · rw [A0 h60,if_pos h60];exact ⟨rfl,rfl⟩
  · rw [A4 h60,if_neg h60,A0 (by omega),A0 (by omega)]
    exact ⟨rfl,rfl⟩
theorem E3A{a b:Int}(h:b>a):E6u a b=b:=by unfold E6u;rw [A0 h];rfl
theorem E3B{a b:Int}(h:¬ b>a):E6u a b=a:=by unfold E6u;rw [A4 h];rfl
theorem D7B{w:A6}(h:RWw w)(j:Int):A18 w j=some ((A0O w j).1,(A0O w j).2,())∧S7 w j=some ((A0O w j).1,(A0O w j).2,()):=by
  obtain ⟨⟨st,held⟩,cls,busy,asks,tells,best⟩:=w
  unfold RWw at h
  simp only at h
  have hn:=h.n6
  have hl6:=h.l6
  have hlb:=h.lb
  have hlt:=h.lt
  simp only [A18,A7p,S7,B0N,K7,Q7,bO,A0O]
  rw [w64 (n:=(tells.length:Int)-1) (by omega) (by omega)]
  by_cases hr:0≤j∧j≤(tells.length:Int)-1
  · obtain ⟨j,rfl⟩:∃ q:Nat,j=(q:Int):=⟨j.toNat,by omega⟩
    have hjl:j<tells.length:=by omega
    obtain ⟨a,ha⟩:∃ x,tells[j]? = some x:=⟨_,List.getElem?_eq_getElem hjl⟩
    obtain ⟨g1,g2,g3⟩:=h.tl a (List.mem_of_getElem? ha)
    obtain ⟨who,resp⟩:=a
    simp only at g1 g2 g3
    obtain ⟨i,rfl⟩:∃ q:Nat,who=(q:Int):=⟨who.toNat,by omega⟩
    have hic:i<cls.length:=by omega
    obtain ⟨cl,hcl⟩:∃ x,cls[i]? = some x:=⟨_,List.getElem?_eq_getElem hic⟩
    obtain ⟨b,hb⟩:∃ x,busy[i]? = some x:=⟨_,List.getElem?_eq_getElem (show i<busy.length by omega)⟩
    obtain ⟨bt0,hbt⟩:∃ x,best[i]? = some x:=⟨_,List.getElem?_eq_getElem (show i<best.length by omega)⟩
    have hg:=h.cl cl (List.mem_of_getElem? hcl)
    have hsz:=A59 hg
    rw [A0 hr,B3I A9 ha]
    have hhr:A2C cl resp=if B13 cl=true then cl else hear cl resp:=by
      unfold A2C
      rw [hg.1,g1]
      cases B13 cl<;>rfl
    have hset:∀ {α:Type} {l:List α} {n:Nat} {v:α},l[n]? = some v→l.set n v=l:=fun {α l n v} hv=>by
      obtain ⟨hn,e⟩:=List.getElem?_eq_some_iff.1 hv
      rw [← e];exact List.set_getElem_self hn
    simp only [Bool.not_true,cond_false]
    rw [if_pos (show (0:Int)≤(j:Int)∧(j:Int)<(tells.length:Int) by omega),B3I .bool hb,B3I B2 hcl,B3I (.int .i64) hbt,w64 (n:=(j:Int)+1) (by omega) (by omega),Int.toNat_natCast,Int.toNat_natCast]
    constructor
    · rw [A0 (show (0:Int)≤(j:Int) by omega),A0 (show (j:Int)<(tells.length:Int) by omega),A0 (show (0:Int)≤(i:Int) by omega),A0 (show (i:Int)<(busy.length:Int) by omega),A0 (show (i:Int)<(cls.length:Int) by omega),A0 (show (i:Int)<(best.length:Int) by omega),D0j cl resp (C85 hg) (by omega)]
      simp only [cond_true,bO,H5,E6v hjl]
      cases b<;>rfl
    · rw [A0 (show (0:Int)≤(j:Int) by omega),A0 (show (j:Int)<(tells.length:Int) by omega),A0 (show (j:Int)≤(tells.length:Int) by omega),
        A0 (show (0:Int)≤(j:Int)+1 by omega),A0 (show (j:Int)+1≤(tells.length:Int) by omega),A0 (by simp;omega),A0 (by simp;omega),A0 (by simp;omega),A0 (by simp;omega),
        A0 (show (0:Int)≤(i:Int) by omega),A0 (show (i:Int)<(busy.length:Int) by omega),A0 (show (i:Int)<(cls.length:Int) by omega),B3I E8k hcl,E0H,E0M]
      simp only [cond_true,bO,E6w]
      cases b with
      | false=>rfl
      | true=>
        simp only [cond_true,if_true]
        cases hov:B13 cl with
        | true=>
          have e1:A2C cl resp=cl:=by rw [hhr,hov];rfl
          rw [e1,hset hcl]
          simp only [Bool.not_true,cond_false,cond_true,bO]
          rw [A0 (show (i:Int)<(best.length:Int) by omega),B3I (.int .i64) hbt]
          by_cases hgt:resp.2>bt0
          · rw [A0 hgt,E3A hgt];rfl
          · rw [A4 hgt,E3B hgt,hset hbt];rfl
        | false=>
          have e1:A2C cl resp=hear cl resp:=by rw [hhr,hov];rfl
          rw [e1]
          simp only [Bool.not_false,cond_false,cond_true,bO]
          rw [A0 (show (i:Int)<(best.length:Int) by omega),B3I (.int .i64) hbt]
          by_cases hgt:resp.2>bt0
          · rw [A0 hgt,E3A hgt];rfl
          · rw [A4 hgt,E3B hgt,hset hbt];rfl
  · rw [A4 hr,if_neg (fun hx=>hr ⟨hx.1,by omega⟩)]
    exact ⟨rfl,rfl⟩
theorem E4S(a:List Bool)(h:a.length≤1048576):L3 a=some (a,()):=by
  simp only [L3,X0]
  have e:(bif decide (([]:List Bool).length+a.length≤9223372036854775807) then bif decide ((([]:List Bool).length+a.length)*1≤140737488355328) then some (([]++a),()) else none else none)=some (a,()):=by
    rw [A0 (by simp;omega),A0 (by simp;omega)]
    simp
  rw [e]
  cases a with
  | nil=>simp [B5C]
  | cons x xs=>simp
theorem E4T(a:List Int)(h:a.length≤1048576):N6 a=some (a,()):=by
  simp only [N6,A02]
  have e:(bif decide (([]:List Int).length+a.length≤9223372036854775807) then bif decide ((([]:List Int).length+a.length)*8≤140737488355328) then some (([]++a),()) else none else none)=some (a,()):=by
    rw [A0 (by simp;omega),A0 (by simp;omega)]
    simp
  rw [e]
  cases a with
  | nil=>simp [B5C]
  | cons x xs=>simp
structure CpS (w:A6):Prop where
  sv:D38 w.1
  cl:w.2.1.length≤1048576
  fi:∀ c∈w.2.1,c.2.1.length≤1048576
  bu:w.2.2.1.length≤1048576
  as_:w.2.2.2.1.length≤1048576
  da:∀ a∈w.2.2.2.1,a.2.2.length≤1048576
  te:w.2.2.2.2.1.length≤1048576
  be_:w.2.2.2.2.2.length≤1048576
theorem E9k{w:A6}(hs:Sm 1048576 X5 w):CpS w where
  sv:=E34 (Nat.le_refl _) (Sm.l hs)
  cl:=(Sm.l (Sm.r hs)).1
  fi:=fun c hc=>by
    have h1:Sm 1048576 B2 c:=(Sm.l (Sm.r hs)).2 c hc
    exact (Sm.l (Sm.r h1)).1
  bu:=(Sm.l (Sm.r (Sm.r hs))).1
  as_:=(Sm.l (Sm.r (Sm.r (Sm.r hs)))).1
  da:=fun a ha=>by
    have h1:Sm 1048576 B8 a:=(Sm.l (Sm.r (Sm.r (Sm.r hs)))).2 a ha
    exact (Sm.r (Sm.r h1)).1
  te:=(Sm.l (Sm.r (Sm.r (Sm.r (Sm.r hs))))).1
  be_:=(Sm.r (Sm.r (Sm.r (Sm.r (Sm.r hs))))).1
theorem C88{w:A6}(h:CpS w):A1u w=some (w,()):=by
  obtain ⟨⟨⟨⟨now,sure⟩,ep,nx,ups⟩,held⟩,cls,busy,asks,tells,best⟩:=w
  obtain ⟨h1,h2,h3,h4,h5,h6,h7,h8⟩:=h
  simp only at h1 h2 h3 h4 h5 h6 h7 h8
  simp only [A1u,B00,C5U _ h1,E4S _ h4,D37 _ h7,E4T _ h8,bO]
  have k1:B7 (A0D K0 (((((now,sure),(ep,(nx,ups))),held),(cls,(busy,(asks,(tells,best))))):A6)) (0,ep,nx,now,sure,ups,held,busy,tells,best,[],())=some (ep,nx,now,sure,ups,held,busy,tells,best,cls,()):=by
    have key:=E5 (A0D K0 (((((now,sure),(ep,(nx,ups))),held),(cls,(busy,(asks,(tells,best))))):A6)) (fun i=>((i:Int),ep,nx,now,sure,ups,held,busy,tells,best,cls.take i,())) cls.length (ep,nx,now,sure,ups,held,busy,tells,best,cls,()) (fun i hi=>?_) ?_
    · simpa using key
    · have g1:(i:Int)<(cls.length:Int):=by omega
      have g2:(0:Int)≤(i:Int):=by omega
      have hf:=h3 _ (List.getElem_mem hi)
      simp only [A0D,A0 g1,A0 g2,cond_true]
      rw [D0 (k:=B2) (xs:=cls) hi,B7G _ (by omega)]
      simp only [bO]
      rw [A0 (by simp;omega),A0 (by simp;omega),w64 (by omega) (by omega),List.take_succ_eq_append_getElem hi]
      rfl
    · simp [A0D]
  rw [k1]
  simp only [bO]
  have key:=E5 (A2Y C7 (((((now,sure),(ep,(nx,ups))),held),(cls,(busy,(asks,(tells,best))))):A6)) (fun i=>((i:Int),ep,nx,now,sure,ups,held,busy,tells,best,cls,asks.take i,())) asks.length ((((((now,sure),(ep,(nx,ups))),held),(cls,(busy,(asks,(tells,best))))):A6),()) (fun i hi=>?_) ?_
  · simpa using key
  · have g1:(i:Int)<(asks.length:Int):=by omega
    have g2:(0:Int)≤(i:Int):=by omega
    have hf:=h6 _ (List.getElem_mem hi)
    simp only [A2Y,A0 g1,A0 g2,cond_true]
    rw [D0 (k:=B8) (xs:=asks) hi,A2B _ (by omega)]
    simp only [bO]
    rw [A0 (by simp;omega),A0 (by simp;omega),w64 (by omega) (by omega),List.take_succ_eq_append_getElem hi]
    rfl
  · simp [A2Y]
theorem C89{w:A6}(h:CpS w):A6G w=some (w,()):=by
  obtain ⟨⟨⟨⟨now,sure⟩,ep,nx,ups⟩,held⟩,cls,busy,asks,tells,best⟩:=w
  obtain ⟨h1,h2,h3,h4,h5,h6,h7,h8⟩:=h
  simp only at h1 h2 h3 h4 h5 h6 h7 h8
  simp only [A6G,B52,C5V _ h1,bO,List.nil_append,List.length_nil,Nat.zero_add]
  rw [A0 (show busy.length≤9223372036854775807 by omega),A0 (show busy.length*1≤140737488355328 by omega),A0 (show tells.length≤9223372036854775807 by omega),A0 (show tells.length*24≤140737488355328 by omega),A0 (show best.length≤9223372036854775807 by omega),A0 (show best.length*8≤140737488355328 by omega)]
  simp only [cond_true]
  have k1:B7 (A26 A1K (((((now,sure),(ep,(nx,ups))),held),(cls,(busy,(asks,(tells,best))))):A6)) (0,ep,nx,busy,tells,best,now,sure,ups,held,[],())=some (ep,nx,busy,tells,best,now,sure,ups,held,cls,()):=by
    have key:=E5 (A26 A1K (((((now,sure),(ep,(nx,ups))),held),(cls,(busy,(asks,(tells,best))))):A6)) (fun i=>((i:Int),ep,nx,busy,tells,best,now,sure,ups,held,cls.take i,())) cls.length (ep,nx,busy,tells,best,now,sure,ups,held,cls,()) (fun i hi=>?_) ?_
    · simpa using key
    · have g1:(i:Int)<(cls.length:Int):=by omega
      have g2:(0:Int)≤(i:Int):=by omega
      have hf:=h3 _ (List.getElem_mem hi)
      simp only [A26,A0 g1,A0 g2,cond_true]
      rw [D0 (k:=B2) (xs:=cls) hi,E0I _ (by omega)]
      simp only [bO]
      rw [A0 (by simp;omega),A0 (by simp;omega),w64 (by omega) (by omega),List.take_succ_eq_append_getElem hi]
      rfl
    · simp [A26]
  rw [k1]
  simp only [bO]
  have key:=E5 (A5m (((((now,sure),(ep,(nx,ups))),held),(cls,(busy,(asks,(tells,best))))):A6)) (fun i=>((i:Int),ep,nx,busy,tells,best,now,sure,ups,held,cls,asks.take i,())) asks.length ((((((now,sure),(ep,(nx,ups))),held),(cls,(busy,(asks,(tells,best))))):A6),()) (fun i hi=>?_) ?_
  · simpa using key
  · have g1:(i:Int)<(asks.length:Int):=by omega
    have g2:(0:Int)≤(i:Int):=by omega
    have hf:=h6 _ (List.getElem_mem hi)
    simp only [A5m,A0 g1,A0 g2,cond_true]
    rw [D0 (k:=B8) (xs:=asks) hi,A0 (by simp;omega),A0 (by simp;omega),A0 (by simp;omega),A0 (by simp;omega),w64 (by omega) (by omega),List.take_succ_eq_append_getElem hi]
    rfl
  · simp [A5m]
theorem E6x{w:A6}(hs:Sm 1048576 X5 w)(hw:Wf X5 w):(∃ b,Z2 w=some (b,())∧A3G w=some (b,())∧(b=true→RWw w)):=by
  obtain ⟨b,h1,h2⟩:=E0R w (E6q hs)
  refine ⟨b,h1,h2,fun hb=>?_⟩
  subst hb
  exact E6t w hs (fun u hu=>E04 (hw.1.1.2.2.2.2 u hu).2.2.1.2) (fun c hc=>E04 (hw.2.1.2 c hc).2.1.2) (fun a ha=>E04 (hw.2.2.2.1.2 a ha).2.2.2) h1
@[reducible] def tI(w:A6):Int×Int×List ByteArray×List ByteArray×List TUp×List B6×List B0×List Bool×List D5×List B6×List Int×Unit:=
  (w.1.1.2.1,w.1.1.2.2.1,w.1.1.1.1,w.1.1.1.2,w.1.1.2.2.2,w.1.2,w.2.1,w.2.2.1,w.2.2.2.1,w.2.2.2.2.1,w.2.2.2.2.2,())
@[reducible] def tS(w:A6):List ByteArray×List ByteArray×Int×Int×List TUp×List B6×List B0×List Bool×List D5×List B6×List Int×Unit:=
  (w.1.1.1.1,w.1.1.1.2,w.1.1.2.1,w.1.1.2.2.1,w.1.1.2.2.2,w.1.2,w.2.1,w.2.2.1,w.2.2.2.1,w.2.2.2.2.1,w.2.2.2.2.2,())
noncomputable def A8K:Nat→A6→A6
  | 0,w=>w
  | n+1,w=>bif (R9 w 0).1 then A8K n (R9 w 0).2 else w
noncomputable def C3l:Nat→A6→A6
  | 0,w=>w
  | n+1,w=>bif (A0O w 0).1 then C3l n (A0O w 0).2 else w
noncomputable def A4d:Nat→A6→A6
  | 0,w=>w
  | n+1,w=>(A9Y (A4d n w) (n:Int)).2
noncomputable def C0Y(w:A6):A6:=(B3J (A8K w.2.2.2.1.length w)).2
noncomputable def D7C(w:A6):A6:=C3l (C0Y w).2.2.2.2.1.length (C0Y w)
noncomputable def B15(w:A6):A6:=A4d (D7C w).2.1.length (D7C w)
theorem A7I{w:A6}{j:Int}(h:(R9 w j).1=false):(R9 w j).2=w:=by
  revert h
  unfold R9
  split
  · exact fun h=>absurd h (by simp)
  · exact fun _=>rfl
theorem C3m{w:A6}{j:Int}(h:(A0O w j).1=false):(A0O w j).2=w:=by
  revert h
  unfold A0O
  repeat' split
  all_goals first | exact fun _=>rfl | exact fun h=>absurd h (by simp)
theorem B2z{w:A6}(h:(R9 w 0).1=true):(R9 w 0).2.2.2.2.1.length+1=w.2.2.2.1.length:=by
  revert h
  unfold R9
  split
  · rename_i hc
    exact fun _=>C84 (j:=0) (by omega)
  · exact fun h=>absurd h (by simp)
theorem E8R(w:A6):(A0O w 0).1=decide ((w.2.2.2.2.1.length:Int)>0):=by
  unfold A0O
  by_cases h:(w.2.2.2.2.1.length:Int)>0
  · rw [if_pos ⟨by omega,h⟩,A0 h]
    split<;>rfl
  · rw [if_neg (fun hx=>h hx.2),A4 h]
theorem C2b{w:A6}(h:(A0O w 0).1=true):(A0O w 0).2.2.2.2.2.1.length+1=w.2.2.2.2.1.length:=by
  revert h
  unfold A0O
  split
  · rename_i hc
    split
    · exact fun _=>C84 (j:=0) (by omega)
    · exact fun _=>C84 (j:=0) (by omega)
  · exact fun h=>absurd h (by simp)
theorem E6y(w:A6)(i:Int):(A9Y w i).2.2.1=w.2.1:=by
  unfold A9Y
  split<;>rfl
theorem C2c(w:A6):∀ n,(A4d n w).2.1=w.2.1
  | 0=>rfl
  | n+1=>(E6y _ _).trans (C2c w n)
theorem B6m:∀ n {w:A6},RWw w→RWw (A8K n w)
  | 0,w,h=>h
  | n+1,w,h=>by
    unfold A8K
    cases (R9 w 0).1
    · exact h
    · exact B6m n (C87 h 0)
theorem D7D:∀ n {w:A6},RWw w→RWw (C3l n w)
  | 0,w,h=>h
  | n+1,w,h=>by
    unfold C3l
    cases (A0O w 0).1
    · exact h
    · exact D7D n (D4a h 0)
theorem C0Z{w:A6}(h:RWw w):∀ n,RWw (A4d n w)
  | 0=>h
  | n+1=>E8O (C0Z h n) _
theorem B9b{w:A6}(h:RWw w):RWw (C0Y w):=E8P (B6m _ h)
theorem C8A{w:A6}(h:RWw w):RWw (D7C w):=D7D _ (B9b h)
theorem B6n{w:A6}(h:RWw w):RWw (B15 w):=C0Z (C8A h) _
theorem C8B{w:A6}(h:RWw w):E0 w (2,(0,[]))=some ((R9 w 0).1,(R9 w 0).2,()):=by
  simp only [E0,A1i,(C2a h 0).1]
  rfl
theorem E4U{w:A6}(h:RWw w):E0 w (3,(0,[]))=some ((B3J w).1,(B3J w).2,()):=by
  simp only [E0,A1i,(D7A h).1]
  rfl
theorem D3C{w:A6}(h:RWw w):E0 w (4,(0,[]))=some ((A0O w 0).1,(A0O w 0).2,()):=by
  simp only [E0,A1i,(D7B h 0).1]
  rfl
theorem E4V{w:A6}(h:RWw w)(i:Int):E0 w (1,(i,[]))=some ((A9Y w i).1,(A9Y w i).2,()):=by
  simp only [E0,A1i,(E39 h i).1]
  rfl
theorem D0p:∀ n {w:A6},RWw w→w.2.2.2.1.length≤n→B7 (K9 E0 2) (tI w)=some (A8K n w,()):=by
  intro n
  induction n with
  | zero=>
    intro w hr hn
    have e:=C8B hr
    have e':E0 ((((w.1.1.1.1,w.1.1.1.2),(w.1.1.2.1,(w.1.1.2.2.1,w.1.1.2.2.2))),w.1.2),(w.2.1,(w.2.2.1,(w.2.2.2.1,(w.2.2.2.2.1,w.2.2.2.2.2))))) (2,(0,[]))=_:=e
    rw [I0]
    simp only [K9]
    rw [e']
    cases hb:(R9 w 0).1 with
    | true=>have:=B2z hb;omega
    | false=>rw [A7I hb];rfl
  | succ n ih=>
    intro w hr hn
    have e:=C8B hr
    have e':E0 ((((w.1.1.1.1,w.1.1.1.2),(w.1.1.2.1,(w.1.1.2.2.1,w.1.1.2.2.2))),w.1.2),(w.2.1,(w.2.2.1,(w.2.2.2.1,(w.2.2.2.2.1,w.2.2.2.2.2))))) (2,(0,[]))=_:=e
    rw [I0]
    simp only [K9]
    rw [e']
    unfold A8K
    cases hb:(R9 w 0).1 with
    | true=>
      have:=B2z hb
      exact ih (C87 hr 0) (show (R9 w 0).2.2.2.2.1.length≤n by omega)
    | false=>rw [A7I hb];rfl
theorem D4b:∀ n {w:A6},RWw w→w.2.2.2.2.1.length≤n→B7 (K9 E0 4) (tI w)=some (C3l n w,()):=by
  intro n
  induction n with
  | zero=>
    intro w hr hn
    have e:=D3C hr
    have e':E0 ((((w.1.1.1.1,w.1.1.1.2),(w.1.1.2.1,(w.1.1.2.2.1,w.1.1.2.2.2))),w.1.2),(w.2.1,(w.2.2.1,(w.2.2.2.1,(w.2.2.2.2.1,w.2.2.2.2.2))))) (4,(0,[]))=_:=e
    rw [I0]
    simp only [K9]
    rw [e']
    cases hb:(A0O w 0).1 with
    | true=>have:=C2b hb;omega
    | false=>rw [C3m hb];rfl
  | succ n ih=>
    intro w hr hn
    have e:=D3C hr
    have e':E0 ((((w.1.1.1.1,w.1.1.1.2),(w.1.1.2.1,(w.1.1.2.2.1,w.1.1.2.2.2))),w.1.2),(w.2.1,(w.2.2.1,(w.2.2.2.1,(w.2.2.2.2.1,w.2.2.2.2.2))))) (4,(0,[]))=_:=e
    rw [I0]
    simp only [K9]
    rw [e']
    unfold C3l
    cases hb:(A0O w 0).1 with
    | true=>
      have:=C2b hb
      exact ih (D4a hr 0) (show (A0O w 0).2.2.2.2.2.1.length≤n by omega)
    | false=>rw [C3m hb];rfl
theorem C3n(w:A6):B7 (A0J N9) (false,tS w)=some (tS w):=by
  rw [I0]
  rfl
theorem D4c:∀ n {w:A6},RWw w→w.2.2.2.1.length≤n→B7 (A0J N9) (true,tS w)=some (tS (A8K n w)):=by
  intro n
  induction n with
  | zero=>
    intro w hr hn
    have e':N9 ((((w.1.1.1.1,w.1.1.1.2),(w.1.1.2.1,(w.1.1.2.2.1,w.1.1.2.2.2))),w.1.2),(w.2.1,(w.2.2.1,(w.2.2.2.1,(w.2.2.2.2.1,w.2.2.2.2.2))))) 0=_:=(C2a hr 0).2
    rw [I0]
    simp only [A0J]
    rw [e']
    cases hb:(R9 w 0).1 with
    | true=>have:=B2z hb;omega
    | false=>rw [A7I hb];exact C3n w
  | succ n ih=>
    intro w hr hn
    have e':N9 ((((w.1.1.1.1,w.1.1.1.2),(w.1.1.2.1,(w.1.1.2.2.1,w.1.1.2.2.2))),w.1.2),(w.2.1,(w.2.2.1,(w.2.2.2.1,(w.2.2.2.2.1,w.2.2.2.2.2))))) 0=_:=(C2a hr 0).2
    rw [I0]
    simp only [A0J]
    rw [e']
    unfold A8K
    cases hb:(R9 w 0).1 with
    | true=>
      have:=B2z hb
      exact ih (C87 hr 0) (show (R9 w 0).2.2.2.2.1.length≤n by omega)
    | false=>rw [A7I hb];exact C3n w
theorem D7E:∀ n {w:A6},RWw w→w.2.2.2.2.1.length≤n→B7 (A0K S7) (tS w)=some (tS (C3l n w)):=by
  intro n
  induction n with
  | zero=>
    intro w hr hn
    rw [I0]
    simp only [A0K]
    rw [A4 (show ¬ (w.2.2.2.2.1.length:Int)>0 by omega)]
    rfl
  | succ n ih=>
    intro w hr hn
    have e':S7 ((((w.1.1.1.1,w.1.1.1.2),(w.1.1.2.1,(w.1.1.2.2.1,w.1.1.2.2.2))),w.1.2),(w.2.1,(w.2.2.1,(w.2.2.2.1,(w.2.2.2.2.1,w.2.2.2.2.2))))) 0=_:=(D7B hr 0).2
    have ht:=E8R w
    rw [I0]
    simp only [A0K]
    unfold C3l
    cases hb:(A0O w 0).1 with
    | true=>
      have:=C2b hb
      rw [hb] at ht
      rw [← ht,e']
      exact ih (D4a hr 0) (show (A0O w 0).2.2.2.2.2.1.length≤n by omega)
    | false=>
      rw [hb] at ht
      rw [← ht]
      rfl
theorem D7F{w:A6}(h:RWw w):B7 (T0 E0 (w,())) (0,tI w)=some (A4d w.2.1.length w,()):=by
  have hn:=h.n6
  have key:=E5 (T0 E0 (w,())) (fun j=>((j:Int),tI (A4d j w))) w.2.1.length (A4d w.2.1.length w,()) (fun j hj=>?_) ?_
  · exact key
  · have hw:=C0Z h j
    show T0 E0 (w,()) ((j:Int),tI (A4d j w))=some (.inl (((j+1:Nat):Int),tI (A9Y (A4d j w) (j:Int)).2))
    generalize A4d j w=v at hw ⊢
    have e:=E4V hw (j:Int)
    have e':E0 ((((v.1.1.1.1,v.1.1.1.2),(v.1.1.2.1,(v.1.1.2.2.1,v.1.1.2.2.2))),v.1.2),(v.2.1,(v.2.2.1,(v.2.2.2.1,(v.2.2.2.2.1,v.2.2.2.2.2))))) (1,((j:Int),[]))=_:=e
    simp only [T0]
    rw [A0 (show (j:Int)<(w.2.1.length:Int) by omega),e',w64 (n:=(j:Int)+1) (by omega) (by omega)]
    rfl
  · simp only [T0]
    rw [A4 (by omega)]
    rfl
theorem D7G{w:A6}(h:RWw w):B7 (V1 P9) (0,tS w)=some (A4d w.2.1.length w,()):=by
  have hn:=h.n6
  have key:=E5 (V1 P9) (fun j=>((j:Int),tS (A4d j w))) w.2.1.length (A4d w.2.1.length w,()) (fun j hj=>?_) ?_
  · exact key
  · have hw:=C0Z h j
    have hcl:=C2c w j
    show V1 P9 ((j:Int),tS (A4d j w))=some (.inl (((j+1:Nat):Int),tS (A9Y (A4d j w) (j:Int)).2))
    generalize A4d j w=v at hw hcl ⊢
    have e':P9 ((((v.1.1.1.1,v.1.1.1.2),(v.1.1.2.1,(v.1.1.2.2.1,v.1.1.2.2.2))),v.1.2),(v.2.1,(v.2.2.1,(v.2.2.2.1,(v.2.2.2.2.1,v.2.2.2.2.2))))) (j:Int)=_:=(E39 hw (j:Int)).2
    simp only [V1,hcl]
    rw [hcl] at e'
    rw [A0 (show (j:Int)<(w.2.1.length:Int) by omega),e',w64 (n:=(j:Int)+1) (by omega) (by omega)]
    rfl
  · simp only [V1]
    rw [A4 (show ¬ (w.2.1.length:Int)<((A4d w.2.1.length w).2.1.length:Int) by rw [C2c];omega)]
    generalize A4d w.2.1.length w=v
    rfl
theorem D3D{w:A6}(h:RWw w):L5 w=some (B15 w,()):=by
  have h1:=B6m w.2.2.2.1.length h
  have h2:=B9b h
  have h3:=C8A h
  simp only [L5,A7q,A2f,A6d]
  have a1:=D0p w.2.2.2.1.length h (Nat.le_refl _)
  have a2:=E4U h1
  have a3:=D4b (C0Y w).2.2.2.2.1.length h2 (Nat.le_refl _)
  have a3':B7 (K9 E0 4) (tI (B3J (A8K w.2.2.2.1.length w)).2)=some (D7C w,()):=a3
  rw [a1]
  simp only [bO]
  rw [a2]
  simp only [bO]
  rw [a3']
  exact D7F h3
theorem D3E{w:A6}(h:RWw w):A2A w=some (B15 w,()):=by
  have h1:=B6m w.2.2.2.1.length h
  have h2:=B9b h
  have h3:=C8A h
  simp only [A2A,B0P]
  have a1:=D4c w.2.2.2.1.length h (Nat.le_refl _)
  rw [a1]
  simp only [bO]
  have a2:=(D7A h1).2
  have a3:=D7E (C0Y w).2.2.2.2.1.length h2 (Nat.le_refl _)
  have a3':B7 (A0K S7) (tS (B3J (A8K w.2.2.2.1.length w)).2)=some (tS (D7C w)):=a3
  have a4:=D7G h3
  generalize A8K w.2.2.2.1.length w=v at a2 a3'
  have a2':A3L ((((v.1.1.1.1,v.1.1.1.2),(v.1.1.2.1,(v.1.1.2.2.1,v.1.1.2.2.2))),v.1.2),(v.2.1,(v.2.2.1,(v.2.2.2.1,(v.2.2.2.2.1,v.2.2.2.2.2)))))=_:=a2
  rw [a2']
  simp only [bO]
  rw [a3']
  simp only [bO]
  exact a4
noncomputable def A5q:Nat→A6→A6
  | 0,w=>w
  | n+1,w=>B15 (B15 (A5q n w))
theorem E8S(w:A6):A5q 1 w=B15 (B15 w):=by simp only [A5q]
theorem C8C{w:A6}(h:RWw w):∀ n,RWw (A5q n w)
  | 0=>h
  | n+1=>B6n (B6n (C8C h n))
theorem D0q{w:A6}(h:RWw w)(n:Nat)(hn:n≤100):B7 (A06 L5 (n:Int)) (0,tI w)=some (A5q n w,()):=by
  have key:=E5 (A06 L5 (n:Int)) (fun j=>((j:Int),tI (A5q j w))) n (A5q n w,()) (fun j hj=>?_) ?_
  · exact key
  · have hw:=C8C h j
    show A06 L5 (n:Int) ((j:Int),tI (A5q j w))=some (.inl (((j+1:Nat):Int),tI (B15 (B15 (A5q j w)))))
    generalize A5q j w=v at hw ⊢
    have e':L5 ((((v.1.1.1.1,v.1.1.1.2),(v.1.1.2.1,(v.1.1.2.2.1,v.1.1.2.2.2))),v.1.2),(v.2.1,(v.2.2.1,(v.2.2.2.1,(v.2.2.2.2.1,v.2.2.2.2.2)))))=_:=D3D hw
    simp only [A06]
    rw [A0 (show (j:Int)<(n:Int) by omega),e',w64 (n:=(j:Int)+1) (by omega) (by omega)]
    simp only [bO,cond_true]
    rw [D3D (B6n hw)]
    simp only [bO]
    generalize B15 (B15 v)=u
    rfl
  · simp only [A06]
    rw [A4 (by omega)]
    rfl
theorem round_eq(w:A6)(hs:Sm 1048576 X5 w)(hw:Wf X5 w):∃ y,A0L w=some (y,())∧B0r w=some (y,())∧E8N y:=by
  obtain ⟨b,h1,h2,h3⟩:=E6x hs hw
  have hc:=E9k hs
  simp only [A0L,A6l,B0r,C2C,B2J,B99,C88 hc,C89 hc,h1,h2,K7,bO]
  rw [A0 (show (0:Int)≤1∧(1:Int)≤100 by omega)]
  cases b with
  | false=>exact ⟨w,rfl,rfl,E38 hs⟩
  | true=>
    have hr:=h3 rfl
    have e1:=D0q hr 1 (by omega)
    have e1':B7 (A06 L5 1) (0,tI w)=_:=e1
    simp only [cond_true,Bool.not_true,cond_false,C3,bO,D3E hr,D3E (B6n hr)]
    rw [e1',E8S]
    have hm:=E9j (B6n (B6n hr))
    generalize B15 (B15 w)=u at hm ⊢
    exact ⟨u,rfl,rfl,hm⟩
theorem exactRound(w:A6)(hw:Wf X5 w):A55 w=some (true,()):=by
  have hm:Sm maxLen X5 w:=D6Q hw
  simp only [A55,A54]
  obtain ⟨r,e1,h1,h2⟩:=E0A w hm 1048576 (by omega) (by omega)
  rw [e1]
  simp only [A3]
  by_cases hr:r<0
  · rw [A0 hr];rfl
  rw [A4 hr]
  have hs:Sm 1048576 X5 w:=h2 (by omega)
  obtain ⟨y,es,ei,hy,hyl,hyn⟩:=round_eq w hs hw
  obtain ⟨_,hxl,hxn⟩:=E38 hs
  have q1:=C0M y hy
  have q3:=C0M w hm
  obtain ⟨mx,x1,x2,x3,x4,ex,ax,bx,fx⟩:=D6r w hxl 1 (by omega) (by omega)
  obtain ⟨my,y1,y2,y3,y4,ey,ay,by',fy⟩:=D6r y hyl 1 (by omega) (by omega)
  simp only [cond_false,E0E w hs,es,ei,q1,q3,ex,ey,fy,Bool.not_true,C3,A3]
  rw [A4 (show ¬ mx<0 by omega),A4 (show ¬ my<0 by omega)]
  simp
end Go.Proofs.YtpdcljonclhhpaaGreat.Ev
