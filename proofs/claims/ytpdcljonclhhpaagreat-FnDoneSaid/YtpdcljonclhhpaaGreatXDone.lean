/- What the plain functions of the program and of the reference answer: laws of plain data. -/
import Derived.Test.YtpdcljonclhhpaaGreatXDonea
set_option linter.unusedVariables false
set_option linter.unusedSimpArgs false
namespace Go.Proofs.YtpdcljonclhhpaaGreat.Ev
theorem E1C(c:B6)(n:Int)(hc:Cur c)(hn:0<n/\n<=1000):∃ y c',T6 c n=some (y,c',())/\B26 1000 y/\Cur c':=by
 obtain ⟨m,c1,q1,h1,hm⟩:=Q4 c [30,30,8,0] hc (by simp);have hm2:m<=200:=by
  simp only [List.mem_cons,List.not_mem_nil,or_false] at hm;omega
 obtain ⟨k,c2,q2,h2,k0,k1⟩:=G8 c1 n h1 (by omega);simp only [T6,A2g,A2b,B12,C4N,q1,q2,bO];obtain ⟨z,e,hz⟩:=P0 (A1j I5) (fun l=>l.1.toNat)
  (fun l=>∃ j:Nat,l.1<=1000-(j:Int)/\j<=1000/\B26 j ((l.2.2.2.2.2.2.1,l.2.2.2.2.2.2.2.1),(l.2.1,(l.2.2.1,l.2.2.2.2.2.2.2.2.1)))/\Cur (l.2.2.2.1,(l.2.2.2.2.1,l.2.2.2.2.2.1))) (fun z=>B26 1000 z.1/\Cur z.2.1) (fun l hl=>by
   obtain ⟨j,g0,gj,g1,g2⟩:=hl;simp only [A1j];by_cases hi:l.1>0
   ·obtain ⟨y,c',e,hy,hc'⟩:=E1A j (by omega) _ _ g2 g1;rw [A0 hi,e];simp only [cond_true,bO];rw [w64 (by omega) (by omega)];exact .inl ⟨_,rfl,⟨j+1,by simp only;omega,by omega,hy,hc'⟩,by simp only;omega⟩
   ·rw [A4 hi];exact .inr ⟨_,rfl,A68 g1 gj,g2⟩) (k,0,0,c2.1,c2.2.1,c2.2.2,(E3 m).1,(E3 m).2,[],()) ⟨0,by simp only;omega,by omega,B41 m hm2,h2⟩
 exact ⟨z.1,z.2.1,e,hz⟩
def lenOf(st:A6)(id:X0):Int:=if H6 st.2.2.2 id=true then (List.length (rd kUp st.2.2.2 (B5 st.2.2.2 id:Int)).2.2.1:Int) else 0
def J0(st:A6)(code:Int)(id:X0):S9:=
 if code=2 then (404,-1) else if code=3\/code=4 then (409,lenOf st id) else if code=5 then (507,-1) else if code=6 then (422,-1) else (400,-1)
def D6M(st:A6)(r:A0t):S9:=
 if H6 st.2.2.2 r.2.1=true then (if r.1=5/\(rd kUp st.2.2.2 (B5 st.2.2.2 r.2.1:Int)).2.2.2=false then (409,lenOf st r.2.1) else (200,lenOf st r.2.1)) else (404,-1)
def A7T(st:A6)(r:A0t)(dat:List Int):A6×S9:=
 if r.1=1 then ((A49 st r.2.1 r.2.2).1,if (A49 st r.2.1 r.2.2).2=0 then (201,0) else J0 st (A49 st r.2.1 r.2.2).2 r.2.1)
 else if r.1=3 then ((A6p st r.2.1 r.2.2 dat).1,if (A6p st r.2.1 r.2.2 dat).2=0 then (204,r.2.2+(dat.length:Int)) else J0 st (A6p st r.2.1 r.2.2 dat).2 r.2.1)
 else if r.1=4 then ((A3Q st r.2.1 r.2.2).1,if (A3Q st r.2.1 r.2.2).2=0 then (200,-1) else J0 st (A3Q st r.2.1 r.2.2).2 r.2.1)
 else if r.1=6 then ((A7S st r.2.1).1,if (A7S st r.2.1).2=0 then (204,-1) else J0 st (A7S st r.2.1).2 r.2.1)
 else (st,D6M st r)
theorem B6j{st:A6}{id:X0}{n:Int}(h:¬ (A49 st id n).2=0):(A49 st id n).1=st:=by
 unfold A49 at h ⊢;split
 ·rename_i h1;rw [if_pos h1] at h;split
  ·rfl
  ·rename_i h2;rw [if_neg h2] at h;split
   ·rfl
   ·rename_i h3;rw [if_neg h3] at h;exact absurd rfl h
 ·rfl
theorem C19{st:A6}{id:X0}{n:Int}{d:List Int}(h:¬ (A6p st id n d).2=0):(A6p st id n d).1=st:=by
 unfold A6p at h ⊢;split
 ·rename_i h1;rw [if_pos h1] at h;split
  ·rename_i h2;rw [if_pos h2] at h;split
   ·rfl
   ·rename_i h3;rw [if_neg h3] at h;split
    ·rfl
    ·rename_i h4;rw [if_neg h4] at h;exact absurd rfl h
  ·rfl
 ·rfl
theorem B6k{st:A6}{id:X0}{n:Int}(h:¬ (A3Q st id n).2=0):(A3Q st id n).1=st:=by
 unfold A3Q at h ⊢;split
 ·rename_i h1;rw [if_pos h1] at h;split
  ·rename_i h2;rw [if_pos h2] at h;split
   ·rfl
   ·rename_i h3;rw [if_neg h3] at h;split
    ·rfl
    ·rename_i h4;rw [if_neg h4] at h;split
     ·rfl
     ·rename_i h5;rw [if_neg h5] at h;split
      ·rfl
      ·rename_i h6;rw [if_neg h6] at h;exact absurd rfl h
  ·rfl
 ·rfl
theorem C3P{st:A6}{id:X0}(h:¬ (A7S st id).2=0):(A7S st id).1=st:=by
 unfold A7S at h ⊢;split
 ·rename_i h1;rw [if_pos h1] at h;split
  ·rename_i h2;rw [if_pos h2] at h;split
   ·rfl
   ·rename_i h4;rw [if_neg h4] at h;exact absurd rfl h
  ·rfl
 ·rfl
theorem B4d{st:A6}{id:X0}{off:Int}{dat:List Int}(h:Rt st)(hb:Byt dat)(h0:(A6p st id off dat).2=0):lenOf (A6p st id off dat).1 id=off+(dat.length:Int)/\off=lenOf st id/\0<=off:=by
 unfold A6p at h0 ⊢;split at h0
 ·rename_i h1;rw [if_pos h1];split at h0
  ·rename_i h3;rw [if_pos h3];split at h0
   ·simp at h0
   ·rename_i h4;rw [if_neg h4];split at h0
    ·simp at h0
    ·rename_i h5;rw [if_neg h5];have hc:=C13 h hb h1.1 h1.2 h3 h4 h5;have hI:=C12 hc _ (Nat.le_refl _);have hn:dat.length<=nPc dat*24:=by
      have:¬ nPc dat<nPc dat:=Nat.lt_irrefl _;rw [B9R] at this;omega
     have hat:=hc.at';refine ⟨?_,?_,by omega⟩
     ·unfold lenOf;rw [if_pos hI.has,hI.val];simp only [List.length_append,List.take_of_length_le hn];omega
     ·unfold lenOf;rw [if_pos h3];exact hat
  ·simp at h0
 ·simp at h0
theorem C6I(x:B9)(n:Int)(id:X0)(hU:Ups x.1.2.2.2):Q7 x n id=some ((n,lenOf x.1 id),x,()):=by
 have hul:=hU.2.1;simp only [Q7,B0B,lenOf];rw [B1L x.1.2.2.2 id (by simp only [maxLen];omega)];cases hh:H6 x.1.2.2.2 id with
 | false=>
  simp only [Bool.false_eq_true,if_false,bO];rw [A0 (show (-1:Int)<0 by omega)];rfl
 | true=>
  simp only [if_true,bO];rw [A4 (show ¬ (B5 x.1.2.2.2 id:Int)<0 by omega)];rfl
theorem B17(x:B9)(c:Int)(id:X0)(hU:Ups x.1.2.2.2):K8 x c id=some (J0 x.1 c id,x,()):=by
 simp only [K8,A5v,C6I x 409 id hU,J0,bO];by_cases h2:c=2
 ·rw [A0 h2,if_pos h2];rfl
 rw [A4 h2,if_neg h2];by_cases h3:c=3
 ·rw [A0 h3,if_pos (.inl h3)];rfl
 rw [A4 h3];by_cases h4:c=4
 ·rw [A0 h4,if_pos (.inr h4)];rfl
 rw [A4 h4,if_neg (fun h=>h.elim h3 h4)];simp only [cond_false,bO];by_cases h5:c=5
 ·rw [A0 h5,if_pos h5];rfl
 rw [A4 h5,if_neg h5];by_cases h6:c=6
 ·rw [A0 h6,if_pos h6];rfl
 rw [A4 h6,if_neg h6];rfl
theorem E4j(x:B9)(r:A0t)(hU:Ups x.1.2.2.2):A2n x r=some (D6M x.1 r,x,()):=by
 have hul:=hU.2.1;simp only [A2n,B0C,C6I x _ r.2.1 hU,D6M,bO];rw [B1L x.1.2.2.2 r.2.1 (by simp only [maxLen];omega)];cases hh:H6 x.1.2.2.2 r.2.1 with
 | false=>
  simp only [Bool.false_eq_true,if_false,bO];rw [A0 (show (-1:Int)<0 by omega)];rfl
 | true=>
  simp only [if_true,bO];rw [A4 (show ¬ (B5 x.1.2.2.2 r.2.1:Int)<0 by omega)];simp only [cond_false];by_cases h5:r.1=5
  ·rw [A0 h5];simp only [cond_true,bO];cases hd:(rd kUp x.1.2.2.2 (B5 x.1.2.2.2 r.2.1:Int)).2.2.2 with
   | true=>rw [if_neg (fun h=>by cases h.2)];rfl
   | false=>rw [if_pos ⟨h5,rfl⟩];rfl
  ·rw [A4 h5,if_neg (fun h=>h5 h.1)];rfl
theorem C6J(st:A6)(id:X0)(hU:Ups st.2.2.2):A1P st id=some (if H6 st.2.2.2 id=true then rd kUp st.2.2.2 (B5 st.2.2.2 id:Int) else (⟨#[]⟩,(0,([],false))),H6 st.2.2.2 id,()):=by
 simp only [A1P,C4F];rw [C0w st.2.2.2 id hU];cases hh:H6 st.2.2.2 id with
 | false=>
  simp only [Bool.false_eq_true,if_false,bO];rw [A0 (show (-1:Int)<0 by omega)];rfl
 | true=>
  obtain ⟨hlt,hid2⟩:=H1.1 hh;have hdl:=B3E hU _ (List.getElem_mem hlt);rw [<- C7 (k:=kUp) hlt] at hdl;simp only [if_true,bO];rw [A4 (show ¬ (B5 st.2.2.2 id:Int)<0 by omega),A0 (show (0:Int)<=(B5 st.2.2.2 id:Int) by omega),A0 (show (B5 st.2.2.2 id:Int)<(st.2.2.2.length:Int) by omega),A0 (by simp;omega),A0 (by simp;omega)];simp only [cond_true,cond_false,List.nil_append]
theorem A9t(st:A6)(id:X0)(c:Int)(hU:Ups st.2.2.2):A64 st id c=some (J0 st c id,()):=by
 have hlo:(List.length (if H6 st.2.2.2 id=true then rd kUp st.2.2.2 (B5 st.2.2.2 id:Int) else ((⟨#[]⟩,(0,([],false))):TUp)).2.2.1:Int)=lenOf st id:=by
  unfold lenOf;split<;>rfl
 simp only [A64,C37,C6J st id hU,J0,bO,hlo];by_cases h2:c=2
 ·rw [A0 h2,if_pos h2];rfl
 rw [A4 h2,if_neg h2];by_cases h3:c=3
 ·rw [A0 h3,if_pos (.inl h3)];rfl
 rw [A4 h3];by_cases h4:c=4
 ·rw [A0 h4,if_pos (.inr h4)];rfl
 rw [A4 h4,if_neg (fun h=>h.elim h3 h4)];simp only [cond_false,bO];by_cases h5:c=5
 ·rw [A0 h5,if_pos h5];rfl
 rw [A4 h5,if_neg h5];by_cases h6:c=6
 ·rw [A0 h6,if_pos h6];rfl
 rw [A4 h6,if_neg h6];rfl
theorem D1N(st:A6)(r:A0t)(hU:Ups st.2.2.2):A2W st r=some (D6M st r,()):=by
 simp only [A2W,B6K,C6J st r.2.1 hU,D6M,lenOf,bO];cases hh:H6 st.2.2.2 r.2.1 with
 | false=>rfl
 | true=>
  simp only [if_true,Bool.not_true,cond_false];by_cases h5:r.1=5
  ·rw [A0 h5];cases hd:(rd kUp st.2.2.2 (B5 st.2.2.2 r.2.1:Int)).2.2.2 with
   | true=>rw [if_neg (fun h=>by cases h.2)];rfl
   | false=>rw [if_pos ⟨h5,rfl⟩];rfl
  ·rw [A4 h5,if_neg (fun h=>h5 h.1)];rfl
theorem D8b(x:B9)(r:A0t)(dat:List Int)(hid:r.2.1.size<=maxLen)(h:Rt x.1)(hb:Byt dat)(hd:dat.length<=1048576)(ho:-9223372036854775808<=r.2.2/\r.2.2<=9223372036854775807) :
  A1L x r dat=some ((A7T x.1 r dat).2,((A7T x.1 r dat).1,x.2),()):=by
 have hU:=h.up;simp only [A1L,A73,A7T];by_cases h1:r.1=1
 ·rw [A0 h1,if_pos h1,D8O x.1 r.2.1 r.2.2 hid h];simp only [cond_true,bO,B8];by_cases hz:(A49 x.1 r.2.1 r.2.2).2=0
  ·rw [A0 hz,if_pos hz];rfl
  ·rw [A4 hz,if_neg hz,B6j hz];simp only [Bool.not_false,cond_true];have e:=B17 x (A49 x.1 r.2.1 r.2.2).2 r.2.1 hU;have e':K8 (((x.1.1.1,x.1.1.2),(x.1.2.1,(x.1.2.2.1,x.1.2.2.2))),x.2) (A49 x.1 r.2.1 r.2.2).2 r.2.1=_:=e;rw [e'];rfl
 rw [A4 h1,if_neg h1];by_cases h3:r.1=3
 ·rw [A0 h3,if_pos h3,E15 x.1 r.2.1 r.2.2 dat hid h hb hd ho];simp only [cond_true,cond_false,bO];have hU2:=(D8N (id:=r.2.1) (off:=r.2.2) (dat:=dat) h hb).1;rw [C6I ((A6p x.1 r.2.1 r.2.2 dat).1,x.2) 204 r.2.1 hU2];simp only [bO,B8];by_cases hz:(A6p x.1 r.2.1 r.2.2 dat).2=0
  ·rw [A0 hz,if_pos hz,(B4d h hb hz).1];rfl
  ·rw [A4 hz,if_neg hz,C19 hz];simp only [Bool.not_false,cond_true];have e:=B17 x (A6p x.1 r.2.1 r.2.2 dat).2 r.2.1 hU;have e':K8 (((x.1.1.1,x.1.1.2),(x.1.2.1,(x.1.2.2.1,x.1.2.2.2))),x.2) (A6p x.1 r.2.1 r.2.2 dat).2 r.2.1=_:=e;rw [e'];rfl
 rw [A4 h3,if_neg h3];by_cases h4:r.1=4
 ·rw [A0 h4,if_pos h4,D8P x.1 r.2.1 r.2.2 hid h];simp only [cond_true,cond_false,bO,B8];by_cases hz:(A3Q x.1 r.2.1 r.2.2).2=0
  ·rw [A0 hz,if_pos hz];rfl
  ·rw [A4 hz,if_neg hz,B6k hz];simp only [Bool.not_false,cond_true];have e:=B17 x (A3Q x.1 r.2.1 r.2.2).2 r.2.1 hU;have e':K8 (((x.1.1.1,x.1.1.2),(x.1.2.1,(x.1.2.2.1,x.1.2.2.2))),x.2) (A3Q x.1 r.2.1 r.2.2).2 r.2.1=_:=e;rw [e'];rfl
 rw [A4 h4,if_neg h4];by_cases h6:r.1=6
 ·rw [A0 h6,if_pos h6,D8Q x.1 r.2.1 hid h];simp only [cond_true,cond_false,bO,B8];by_cases hz:(A7S x.1 r.2.1).2=0
  ·rw [A0 hz,if_pos hz];rfl
  ·rw [A4 hz,if_neg hz,C3P hz];simp only [Bool.not_false,cond_true];have e:=B17 x (A7S x.1 r.2.1).2 r.2.1 hU;have e':K8 (((x.1.1.1,x.1.1.2),(x.1.2.1,(x.1.2.2.1,x.1.2.2.2))),x.2) (A7S x.1 r.2.1).2 r.2.1=_:=e;rw [e'];rfl
 rw [A4 h6,if_neg h6,E4j x r hU];rfl
theorem E1D(st:A6)(r:A0t)(dat:List Int)(hid:r.2.1.size<=maxLen)(h:Rt st)(hS:A8v st)(hok:E7 st=some (true,()))(hb:Byt dat)(hd:dat.length<=1048576)(ho:-9223372036854775808<=r.2.2/\r.2.2<=9223372036854775807) :
  S4 st r dat=some ((A7T st r dat).1,(A7T st r dat).2,()):=by
 have hU:=h.up;simp only [S4,A1w,A7T];by_cases h1:r.1=1
 ·rw [A0 h1,if_pos h1,B9T st r.2.1 r.2.2 hid h hS hok];simp only [cond_true,bO,B8];by_cases hz:(A49 st r.2.1 r.2.2).2=0
  ·rw [A0 hz,if_pos hz];rfl
  ·rw [A4 hz,if_neg hz,B6j hz];simp only [Bool.not_false,cond_true,A9t st r.2.1 _ hU,bO]
 rw [A4 h1,if_neg h1];by_cases h3:r.1=3
 ·rw [A0 h3,if_pos h3,C3L st r.2.1 r.2.2 dat hid h hS hok hb hd ho];simp only [cond_true,cond_false,bO,B8];by_cases hz:(A6p st r.2.1 r.2.2 dat).2=0
  ·rw [A0 hz,if_pos hz];have hl:=B4d h hb hz;have hlo:lenOf st r.2.1<=2000000000:=by
    unfold lenOf;split
    ·rename_i hh;obtain ⟨hlt,_⟩:=H1.1 hh;have hdl:=B3E hU _ (List.getElem_mem hlt);rw [<- C7 (k:=kUp) hlt] at hdl;omega
    ·omega
   rw [w64 (by omega) (by omega)];rfl
  ·rw [A4 hz,if_neg hz,C19 hz];simp only [Bool.not_false,cond_true,A9t st r.2.1 _ hU,bO]
 rw [A4 h3,if_neg h3];by_cases h4:r.1=4
 ·rw [A0 h4,if_pos h4,B9U st r.2.1 r.2.2 hid h hS hok];simp only [cond_true,cond_false,bO,B8];by_cases hz:(A3Q st r.2.1 r.2.2).2=0
  ·rw [A0 hz,if_pos hz];rfl
  ·rw [A4 hz,if_neg hz,B6k hz];simp only [Bool.not_false,cond_true,A9t st r.2.1 _ hU,bO]
 rw [A4 h4,if_neg h4];by_cases h6:r.1=6
 ·rw [A0 h6,if_pos h6,B9V st r.2.1 hid h hS hok];simp only [cond_true,cond_false,bO,B8];by_cases hz:(A7S st r.2.1).2=0
  ·rw [A0 hz,if_pos hz];rfl
  ·rw [A4 hz,if_neg hz,C3P hz];simp only [Bool.not_false,cond_true,A9t st r.2.1 _ hU,bO]
 rw [A4 h6,if_neg h6,D1N st r hU];rfl
theorem D5K(st:A6)(r:A0t)(dat:List Int)(hid:r.2.1.size<=maxLen)(h:Rt st)(hS:A8v st)(hok:E7 st=some (true,()))(hb:Byt dat)(hd:dat.length<=1048576)(ho:-9223372036854775808<=r.2.2/\r.2.2<=9223372036854775807) :
  H5 st r dat=some ((A7T st r dat).1,(A7T st r dat).2,()):=by
 have hU:=h.up;simp only [H5,A0I,A7T];by_cases h1:r.1=1
 ·rw [A0 h1,if_pos h1,B9T st r.2.1 r.2.2 hid h hS hok];simp only [cond_true,bO,B8];by_cases hz:(A49 st r.2.1 r.2.2).2=0
  ·rw [A0 hz,if_pos hz];rfl
  ·rw [A4 hz,if_neg hz,B6j hz];simp only [Bool.not_false,cond_true,A9t st r.2.1 _ hU,bO]
 rw [A4 h1,if_neg h1];by_cases h3:r.1=3
 ·rw [A0 h3,if_pos h3,C3L st r.2.1 r.2.2 dat hid h hS hok hb hd ho];simp only [cond_true,cond_false,bO,B8];by_cases hz:(A6p st r.2.1 r.2.2 dat).2=0
  ·rw [A0 hz,if_pos hz];have hl:=B4d h hb hz;have hlo:lenOf st r.2.1<=2000000000:=by
    unfold lenOf;split
    ·rename_i hh;obtain ⟨hlt,_⟩:=H1.1 hh;have hdl:=B3E hU _ (List.getElem_mem hlt);rw [<- C7 (k:=kUp) hlt] at hdl;omega
    ·omega
   rw [w64 (by omega) (by omega)];rfl
  ·rw [A4 hz,if_neg hz,C19 hz];simp only [Bool.not_false,cond_true,A9t st r.2.1 _ hU,bO]
 rw [A4 h3,if_neg h3];by_cases h4:r.1=4
 ·rw [A0 h4,if_pos h4,B9U st r.2.1 r.2.2 hid h hS hok];simp only [cond_true,cond_false,bO,B8];by_cases hz:(A3Q st r.2.1 r.2.2).2=0
  ·rw [A0 hz,if_pos hz];rfl
  ·rw [A4 hz,if_neg hz,B6k hz];simp only [Bool.not_false,cond_true,A9t st r.2.1 _ hU,bO]
 rw [A4 h4,if_neg h4];by_cases h6:r.1=6
 ·rw [A0 h6,if_pos h6,B9V st r.2.1 hid h hS hok];simp only [cond_true,cond_false,bO,B8];by_cases hz:(A7S st r.2.1).2=0
  ·rw [A0 hz,if_pos hz];rfl
  ·rw [A4 hz,if_neg hz,C3P hz];simp only [Bool.not_false,cond_true,A9t st r.2.1 _ hU,bO]
 rw [A4 h6,if_neg h6,D1N st r hU];rfl
def H4(c:T8):T8:=if G6 c&&!A59 c then (c.1,c.2.1,2,c.2.2.2) else c
theorem B3H(c:T8)(h:c.1.size<=maxLen)(h2:c.2.1.length<=140737488355328):A2a c=some (H4 c,()):=by
 simp only [A2a,C39,pe,C3G _ h2,A1k _ h,C3F,A3,H4];cases G6 c<;>cases A59 c<;>simp
theorem D8c(c:T8)(h:c.1.size<=maxLen)(h2:c.2.1.length<=140737488355328):B1p c=some (H4 c,()):=by
 simp only [B1p,C2w,pe,B3w _ h2,A9R _ h,C67,A3,H4];cases G6 c<;>cases A59 c<;>simp
theorem E1E{st:A6}{r:A0t}{dat:List Int}(h:Rt st)(hb:Byt dat):Steps r.2.1 st (A7T st r dat).1:=by
 unfold A7T;split
 ·exact B9e h
 ·split
  ·exact B6h h hb
  ·split
   ·exact B9f h
   ·split
    ·exact B9g h
    ·exact Steps.refl
theorem D1O{st:A6}(h:Rt st)(id:X0):0<=lenOf st id/\lenOf st id<=1000000000:=by
 unfold lenOf;split
 ·rename_i hh;obtain ⟨hlt,_⟩:=H1.1 hh;have hg:=h.up.2.2 _ (List.getElem_mem hlt);rw [C7 (k:=kUp) (xs:=st.2.2.2) hlt];have h1:=hg.1;have h2:=hg.2.1;omega
 ·omega
theorem E1F{st:A6}{r:A0t}{dat:List Int}(h:Rt st)(hb:Byt dat){c:Nat}(hd:Dur st c):V9 (A7T st r dat).2=true:=by
 have key:∀ a b:Int,(100<=a/\a<=599)->(-1<=b/\b<=1000000000)->V9 (a,b)=true:=fun a b h1 h2=>by
  simp only [V9];rw [A0 h1,A0 h2];rfl
 have hl:=D1O h;have hcode:∀ code id,V9 (J0 st code id)=true:=fun code id=>by
  have:=hl id;unfold J0
  repeat' split
  all_goals exact key _ _ (by omega) (by omega)
 unfold A7T;split
 ·simp only;split
  ·exact key _ _ (by omega) (by omega)
  ·exact hcode _ _
 ·split
  ·simp only;split
   ·rename_i h0;obtain ⟨q1,q2,q3⟩:=B4d h hb h0;have hR:=(B25 (C17 (B6h (off:=r.2.2) (id:=r.2.1) h hb) hd).1.g).1;have:=D1O hR r.2.1;exact key _ _ (by omega) (by omega)
   ·exact hcode _ _
  ·split
   ·simp only;split
    ·exact key _ _ (by omega) (by omega)
    ·exact hcode _ _
   ·split
    ·simp only;split
     ·exact key _ _ (by omega) (by omega)
     ·exact hcode _ _
    ·simp only [D6M];have:=hl r.2.1
     repeat' split
     all_goals exact key _ _ (by omega) (by omega)
structure SvI (k:Nat) (sv:B9):Prop where
 dur:∃ c,Dur sv.1 c
 ep:sv.1.2.1<=(k:Int)
 wn:C6H sv.1
 hl:sv.2.length<=200
 hr:∀ h∈sv.2,V9 h.2=true
theorem C4T{k:Nat}{sv:B9}(h:SvI k sv):Rt sv.1/\E3O sv/\E7 sv.1=some (true,()):=by
 obtain ⟨c,hd⟩:=h.dur;obtain ⟨a,b,d,_⟩:=B25 hd.g;have:=h.hl;exact ⟨a,⟨b,by show sv.2.length<=_;omega⟩,d⟩
theorem E7A{k:Nat}{sv:B9}(h:SvI k sv):∀ u∈sv.1.2.2.2,(show Int from u.2.1)<=1000000:=by
 obtain ⟨c,hd⟩:=h.dur;exact B6i hd.g.up h.wn (fun u hu=>by cases hu)
theorem D1P{k k':Nat}{sv:B9}(h:SvI k sv)(hk:k<=k'):SvI k' sv:=⟨h.dur,by have:=h.ep;omega,h.wn,h.hl,h.hr⟩
theorem E1G{k:Nat}{sv:B9}(h:SvI k sv):J5 sv=some (true,())/\A4P sv=some (true,()):=by
 obtain ⟨hR,hS,hok⟩:=C4T h;have hl:=h.hl;obtain ⟨b,e1,e2,_⟩:=B3F sv hR.dk.1 hS.2;have hs:J5 sv=some (true,()):=by
  simp only [J5,A7G];have key:=E0 (I7 R4 sv) (fun j=>((j:Int),())) sv.2.length (.inl ()) (fun i hi=>?_) ?_
  ·have key':C3 (I7 R4 sv) (0,())=_:=key;rw [key'];simp only [B8];rw [A0 (by omega),hok];rfl
  ·simp only [I7];rw [A0 (show (i:Int)<(sv.2.length:Int) by omega),A0 (show (0:Int)<=(i:Int) by omega),C7 (k:=A9) (xs:=sv.2) hi,A9m,h.hr _ (List.getElem_mem hi),w64 (by omega) (by omega)];rfl
  ·simp only [I7];rw [A4 (by omega)];rfl
 rw [hs] at e1;injection e1 with e1;injection e1 with e1
 subst e1;exact ⟨hs,e2⟩
theorem E1H{k:Nat}{sv:B9}(h:SvI k sv):SvI k (((sv.1.1.1,sv.1.1.1),sv.1.2),[]):=by
 obtain ⟨c,hd⟩:=h.dur;exact ⟨⟨_,B24 hd.g⟩,h.ep,h.wn,Nat.zero_le _,fun x hx=>by cases hx⟩
theorem E4k{k:Nat}{sv:B9}(h:SvI k sv):A0N sv=some ((((sv.1.1.1,sv.1.1.1),sv.1.2),[]),sv.2,()):=by
 obtain ⟨hR,hS,hok⟩:=C4T h;have hl:=h.hl;simp only [A0N,A7M,B0J sv hS,(E1G h).1,bO,Bool.not_true,cond_false,A1g,A9P,A12 sv.1 hS.1,hok,B6W sv.1.1 hR.dk,cond_true];rw [A0 (by simp;omega),A0 (by simp;omega)];rfl
theorem E4l{k:Nat}{sv:B9}(h:SvI k sv)(hk:k<=9999)(ke:List Bool):∃ us,GoodS (A0B (U1 sv.1.1.1 sv.1.1.2 ke) us)/\A5E sv.1.1=true/\SvI (k+1) (A0B (U1 sv.1.1.1 sv.1.1.2 ke) us,[]):=by
 obtain ⟨c,hd⟩:=h.dur;have hep:=h.ep;obtain ⟨m,us,g1,g2,g3,g4,g5,g6,g7⟩:=C6G hd ke (by omega);refine ⟨us,g7,hd.g.dk,⟨_,C3O g7⟩,?_,?_,Nat.zero_le _,fun x hx=>by cases hx⟩
 ·show A48 (U1 sv.1.1.1 sv.1.1.2 ke)+1<=((k+1:Nat):Int);omega
 ·intro r hr h1;have hr':r∈B7 (U1 sv.1.1.1 sv.1.1.2 ke):=hr;rw [g3] at hr';exact h.wn r (List.mem_of_mem_take hr') h1
theorem E1I{k:Nat}{sv:B9}(h:SvI k sv)(hk:k<=9999)(ke:List Bool):∃ y,I9 sv ke=some (y,true,sv,())/\SvI (k+1) y:=by
 obtain ⟨us,g1,g2,g3⟩:=E4l h hk ke;refine ⟨_,?_,g3⟩;have hop:C5 (B4b sv.1.1 ke)=_:=C18 g1;simp only [I9,A0g,(E1G h).1,B4c sv.1.1 ke g2,hop,bO,Bool.not_true,cond_false]
theorem E1J{k:Nat}{sv:B9}(h:SvI k sv)(who:Int)(r:A0t)(dat:List Int)(hid:r.2.1.size<=maxLen)(hb:Byt dat)(hd:dat.length<=1048576)(ho:-9223372036854775808<=r.2.2/\r.2.2<=9223372036854775807) :
  ∃ y b,A1G sv who r dat=some (y,b,())/\SvI k y:=by
 obtain ⟨hR,hS,hok⟩:=C4T h;have hl:=h.hl;obtain ⟨c,hdu⟩:=h.dur;simp only [A1G,B0H,B0J sv hS,(E1G h).1,B6b r hid,bO,Bool.not_true,cond_false];cases hq:A26 r with
 | false=>exact ⟨sv,false,rfl,h⟩
 | true=>
  by_cases h2:(sv.2.length:Int)=200
  ·rw [A0 h2];exact ⟨sv,false,rfl,h⟩
  ·rw [A4 h2];simp only [Bool.not_true,cond_false,B8,bO,E1D sv.1 r dat hid hR hS.1 hok hb hd ho];rw [A0 (by simp;omega),A0 (by simp;omega)];have hst:=E1E (r:=r) hR hb;obtain ⟨k1,k2,_⟩:=C17 hst hdu;refine ⟨_,true,rfl,⟨c,k1⟩,by show (A7T sv.1 r dat).1.2.1<=_;rw [k2];exact h.ep,D1M hst hdu h.wn,by simp;omega,fun x hx=>?_⟩;rcases List.mem_append.1 hx with hx | hx
   ·exact h.hr x hx
   ·rw [List.mem_singleton] at hx;subst hx;exact E1F hR hb hdu
theorem E4m(c:B6)(hc:Cur c):∃ r c',A2d c=some (r,c',())/\Cur c'/\-1<=r.2.2/\r.2.2<=4294967295:=by
 obtain ⟨k,c1,q1,h1,k0,k1⟩:=G8 c 6 hc (by omega);obtain ⟨s,c2,q2,h2,_⟩:=B9I c1 [(⟨#[97]⟩:X0),(⟨#[98]⟩:X0),(⟨#[117,112,49]⟩:X0),(⟨#[101,105,103,104,116,108,101,116]⟩:X0)] h1 (by simp);simp only [A2d,B6P,q1,q2,bO];obtain ⟨m,qm⟩:∃ m,A0p (IntKind.i64.wrap (1+k))=some (m,()):=by
  simp only [A0p,A9j];cases decide (IntKind.i64.wrap (1+k)=1)<;>cases decide (IntKind.i64.wrap (1+k)=3)<;>cases decide (IntKind.i64.wrap (1+k)=4)<;>exact ⟨_,rfl⟩
 rw [qm];simp only [bO];cases decide (m>=0) with
 | false=>exact ⟨_,_,rfl,h2,by simp only;omega,by simp only;omega⟩
 | true=>
  obtain ⟨n,c3,q3,h3,hn⟩:=Q4 c2 [0,5,24,100,1000000000] h2 (by simp);have hn2:0<=n/\n<=1000000000:=by
   simp only [List.mem_cons,List.not_mem_nil,or_false] at hn;omega
  simp only [cond_true,q3,bO];cases decide (IntKind.i64.wrap (1+k)=4) with
  | false=>exact ⟨_,_,rfl,h3,by simp only;omega,by simp only;omega⟩
  | true=>
   obtain ⟨b,c4,q4,h4⟩:=A4g c3 2 h3 (by omega);simp only [cond_true,q4,bO];cases b
   ·exact ⟨_,_,rfl,h4,by simp only;omega,by simp only;omega⟩
   ·exact ⟨_,_,rfl,h4,by simp only;omega,by simp only;omega⟩
theorem E1K(c:B6)(hc:Cur c):∃ r c',A2d c=some (r,c',())/\Cur c'/\-1<=r.2.2/\r.2.2<=4294967295/\r.2.1.size<=64:=by
 obtain ⟨k,c1,q1,h1,k0,k1⟩:=G8 c 6 hc (by omega);obtain ⟨s,c2,q2,h2,hs⟩:=B9I c1 [(⟨#[97]⟩:X0),(⟨#[98]⟩:X0),(⟨#[117,112,49]⟩:X0),(⟨#[101,105,103,104,116,108,101,116]⟩:X0)] h1 (by simp);have hsz:s.size<=64:=by
  simp only [List.mem_cons,List.not_mem_nil,or_false] at hs;rcases hs with rfl | rfl | rfl | rfl<;>decide
 simp only [A2d,B6P,q1,q2,bO];obtain ⟨m,qm⟩:∃ m,A0p (IntKind.i64.wrap (1+k))=some (m,()):=by
  simp only [A0p,A9j];cases decide (IntKind.i64.wrap (1+k)=1)<;>cases decide (IntKind.i64.wrap (1+k)=3)<;>cases decide (IntKind.i64.wrap (1+k)=4)<;>exact ⟨_,rfl⟩
 rw [qm];simp only [bO];cases decide (m>=0) with
 | false=>exact ⟨_,_,rfl,h2,by simp only;omega,by simp only;omega,hsz⟩
 | true=>
  obtain ⟨n,c3,q3,h3,hn⟩:=Q4 c2 [0,5,24,100,1000000000] h2 (by simp);have hn2:0<=n/\n<=1000000000:=by
   simp only [List.mem_cons,List.not_mem_nil,or_false] at hn;omega
  simp only [cond_true,q3,bO];cases decide (IntKind.i64.wrap (1+k)=4) with
  | false=>exact ⟨_,_,rfl,h3,by simp only;omega,by simp only;omega,hsz⟩
  | true=>
   obtain ⟨b,c4,q4,h4⟩:=A4g c3 2 h3 (by omega);simp only [cond_true,q4,bO];cases b
   ·exact ⟨_,_,rfl,h4,by simp only;omega,by simp only;omega,hsz⟩
   ·exact ⟨_,_,rfl,h4,by simp only;omega,by simp only;omega,hsz⟩
theorem E4n{k:Nat}{sv:B9}(h:SvI k sv)(c:B6)(hc:Cur c):∃ r dat c',A0U c sv.1=some (r,dat,c',())/\Cur c'/\r.2.1.size<=maxLen/\Byt dat/\dat.length<=1048576/\(-9223372036854775808<=r.2.2/\r.2.2<=9223372036854775807):=by
 obtain ⟨hR,hS,hok⟩:=C4T h;obtain ⟨r,c1,q1,h1,r0,r1⟩:=E4m c hc;obtain ⟨s,c2,q2,h2,hs⟩:=B9I c1 [(⟨#[97]⟩:X0),(⟨#[98]⟩:X0),(⟨#[99]⟩:X0)] h1 (by simp);have hsz:s.size<=maxLen:=by
  simp only [List.mem_cons,List.not_mem_nil,or_false] at hs;rcases hs with rfl | rfl | rfl<;>decide
 have qu:=C6J sv.1 s hR.up;obtain ⟨u,bu,qu',u1,u2,u3⟩:∃ u b,A1P sv.1 s=some (u,b,())/\(List.length u.2.2.1:Int)<=u.2.1/\u.2.1<=1000000/\Byt u.2.2.1:=by
  refine ⟨_,_,qu,?_⟩;split
  ·rename_i hh;obtain ⟨hlt,_⟩:=H1.1 hh;have hg:=hR.up.2.2 _ (List.getElem_mem hlt);have hw:=E7A h _ (List.getElem_mem hlt);rw [C7 (k:=kUp) (xs:=sv.1.2.2.2) hlt];exact ⟨hg.1,hw,hg.2.2.2⟩
  ·exact ⟨by simp,by simp,T9⟩
 simp only [A0U,B0I,q1,q2,qu',bO];cases decide (r.1=1) with
 | true=>
  obtain ⟨n,c3,q3,h3,hn⟩:=Q4 c2 [0,3,30,1000000,1000001] h2 (by simp);have hn2:0<=n/\n<=1000001:=by
   simp only [List.mem_cons,List.not_mem_nil,or_false] at hn;omega
  simp only [cond_true,q3,bO];exact ⟨_,_,_,rfl,h3,hsz,T9,Nat.zero_le _,by simp only;omega⟩
 | false=>
  simp only [cond_false];cases decide (r.1=3) with
  | true=>
   obtain ⟨o,c3,q3,h3,ho⟩:=Q4 c2 [(List.length u.2.2.1:Int),(List.length u.2.2.1:Int),(List.length u.2.2.1:Int),0,7] h2 (by simp);have ho2:0<=o/\o<=1000007:=by
    simp only [List.mem_cons,List.not_mem_nil,or_false] at ho;omega
   obtain ⟨n,c4,q4,h4,hn⟩:=Q4 c3 [1,3,24,30,0] h3 (by simp);have hn2:0<=n/\n<=30:=by
    simp only [List.mem_cons,List.not_mem_nil,or_false] at hn;omega
   obtain ⟨dat,c5,q5,h5,hl5,hb5⟩:=B6V c4 n h4 (by omega);simp only [cond_true,q3,q4,q5,bO];by_cases hg:u.2.1>(List.length u.2.2.1:Int)
   ·obtain ⟨b,c6,q6,h6⟩:=A4g c5 2 h5 (by omega);rw [A0 hg];simp only [cond_true,q6,bO];cases b with
    | true=>
     obtain ⟨d2,c7,q7,h7,hl7,hb7⟩:=B6V c6 (IntKind.i64.wrap (u.2.1-(List.length u.2.2.1:Int))) h6 (by rw [w64 (by omega) (by omega)];omega);rw [w64 (by omega) (by omega)] at hl7;have q7':H0 (c6.1,(c6.2.1,c6.2.2)) (IntKind.i64.wrap (u.2.1-(List.length u.2.2.1:Int)))=_:=q7;simp only [cond_true,q7',bO];exact ⟨_,_,_,rfl,h7,hsz,hb7,by omega,by simp only;omega⟩
    | false=>exact ⟨_,_,_,rfl,h6,hsz,hb5,by omega,by simp only;omega⟩
   ·rw [A4 hg];exact ⟨_,_,_,rfl,h5,hsz,hb5,by omega,by simp only;omega⟩
  | false=>
   simp only [cond_false];cases decide (r.1=4) with
   | true=>
    have hx:A6o u.2.2.1 ^^^ 4294967295<2 ^ 32:=Nat.xor_lt_two_pow (B16 u3) (by omega);simp only [cond_true];rw [B9E _ u3 (by simp only [maxLen];omega)];simp only [bO];obtain ⟨n,c3,q3,h3,hn⟩:=Q4 c2 [((A6o u.2.2.1 ^^^ 4294967295:Nat):Int),((A6o u.2.2.1 ^^^ 4294967295:Nat):Int),7] h2 (by simp);have hn2:0<=n/\n<=4294967296:=by
     simp only [List.mem_cons,List.not_mem_nil,or_false] at hn;omega
    simp only [q3,bO];exact ⟨_,_,_,rfl,h3,hsz,T9,Nat.zero_le _,by simp only;omega⟩
   | false=>exact ⟨_,_,_,rfl,h2,hsz,T9,Nat.zero_le _,by simp only;omega⟩
theorem E1L(c:B6)(n:Int)(hc:Cur c)(hn:0<n/\n<=1000):∃ y c',T5 c n=some (y,c',())/\SvI 1000 y/\Cur c':=by
 obtain ⟨m,c1,q1,h1,hm⟩:=Q4 c [30,30,6] hc (by simp);have hm2:m<=200:=by
  simp only [List.mem_cons,List.not_mem_nil,or_false] at hm;omega
 obtain ⟨k,c2,q2,h2,k0,k1⟩:=G8 c1 n h1 (by omega);have h0:SvI 0 (P8 m):=by
  obtain ⟨⟨d,hd⟩,hep,_⟩:=B41 m hm2;have hsc:B7 (E3 m).1 = []:=by
   have h1:(0:Int)=((B7 (E3 m).1).length:Int):=by
    rcases hd.g with ⟨_,_,_,h4,_⟩;exact h4
   exact List.eq_nil_of_length_eq_zero (by omega)
  exact ⟨⟨d,hd⟩,hep,fun r hr=>by (rw [show B7 (P8 m).1.1.1 = [] from hsc] at hr;cases hr),Nat.zero_le _,fun x hx=>by cases hx⟩
 simp only [T5,A2f,B9Q,q1,q2,bO];obtain ⟨z,e,hz⟩:=P0 (A1i I9 A1G A0N S7 A0U C0) (fun l=>l.1.toNat)
  (fun l=>∃ j:Nat,l.1<=1000-(j:Int)/\j<=1000/\SvI j (((l.2.2.2.2.2.2.1,l.2.2.2.2.2.2.2.1),(l.2.1,(l.2.2.1,l.2.2.2.2.2.2.2.2.1))),l.2.2.2.2.2.2.2.2.2.1)/\Cur (l.2.2.2.1,(l.2.2.2.2.1,l.2.2.2.2.2.1))) (fun z=>SvI 1000 z.1/\Cur z.2.1) (fun l hl=>by
   obtain ⟨j,g0,gj,g1,g2⟩:=hl;simp only [A1i];by_cases hi:l.1>0
   ·obtain ⟨b,c3,q3,h3,b0,b1⟩:=G8 _ 6 g2 (by omega);rw [A0 hi,q3];simp only [cond_true,bO];rw [w64 (by omega) (by omega)];cases decide (b=0) with
    | true=>
     have qs:=E4k g1;simp only [cond_true,qs,bO];exact .inl ⟨_,rfl,⟨j+1,by simp only;omega,by omega,D1P (E1H g1) (by omega),h3⟩,by simp only;omega⟩
    | false=>
     simp only [cond_false];cases decide (b=1) with
     | true=>
      obtain ⟨ke,c4,q4,h4⟩:=D1I c3 h3;obtain ⟨y,q5,hy⟩:=E1I g1 (by omega) ke;simp only [cond_true,q4,q5,bO];exact .inl ⟨_,rfl,⟨j+1,by simp only;omega,by omega,hy,h4⟩,by simp only;omega⟩
     | false=>
      obtain ⟨r,dat,c4,q4,h4,a1,a2,a3,a4⟩:=E4n g1 c3 h3;obtain ⟨who,c5,q5,h5,_⟩:=G8 c4 3 h4 (by omega);obtain ⟨y,b',q6,hy⟩:=E1J g1 who r dat a1 a2 a3 a4;have q4':A0U c3 ((l.2.2.2.2.2.2.1,l.2.2.2.2.2.2.2.1),(l.2.1,(l.2.2.1,l.2.2.2.2.2.2.2.2.1)))=_:=q4;simp only [cond_false,q4',q5,q6,bO];exact .inl ⟨_,rfl,⟨j+1,by simp only;omega,by omega,D1P hy (by omega),h5⟩,by simp only;omega⟩
   ·rw [A4 hi];exact .inr ⟨_,rfl,D1P g1 gj,g2⟩) (k,(P8 m).1.2.1,(P8 m).1.2.2.1,c2.1,c2.2.1,c2.2.2,(P8 m).1.1.1,(P8 m).1.1.2,(P8 m).1.2.2.2,(P8 m).2,()) ⟨0,by simp only;omega,by omega,h0,h2⟩
 exact ⟨z.1,z.2.1,e,hz⟩
structure LeU (u v:TUp):Prop where
 id:u.1=v.1
 want:@Eq Int u.2.1 v.2.1
 len:List.length u.2.2.1<=List.length v.2.2.1
 dat:u.2.2.1=List.take (List.length u.2.2.1) v.2.2.1
 fin:u.2.2.2=true->v.2.2.2=true/\v.2.2.1=u.2.2.1
def C6K(us vs:List TUp):Prop:=∀ u∈us,∃ v∈vs,LeU u v
theorem D1Q(u:TUp):LeU u u:=⟨rfl,rfl,Nat.le_refl _,(List.take_length).symm,fun h=>⟨h,rfl⟩⟩
theorem E4o{u v x:TUp}(h:LeU u v)(h':LeU v x):LeU u x:=
 ⟨h.id.trans h'.id,h.want.trans h'.want,Nat.le_trans h.len h'.len,by
  have h1:=h.dat;rw [h'.dat,List.take_take,Nat.min_eq_left h.len] at h1;exact h1,fun hd=>by
  obtain ⟨g1,g2⟩:=h.fin hd;obtain ⟨g3,g4⟩:=h'.fin g1;exact ⟨g3,g4.trans g2⟩⟩
theorem D5L(us:List TUp):C6K us us:=fun u hu=>⟨u,hu,D1Q u⟩
theorem E1M{us vs xs:List TUp}(h:C6K us vs)(h':C6K vs xs):C6K us xs:=fun u hu=>by
 obtain ⟨v,hv,h1⟩:=h u hu;obtain ⟨x,hx,h2⟩:=h' v hv;exact ⟨x,hx,E4o h1 h2⟩
theorem D8d{us:List TUp}{p:Nat}{v:TUp}(h:∀ hp:p<us.length,LeU us[p] v):C6K us (us.set p v):=fun u hu=>by
 obtain ⟨j,hj,rfl⟩:=List.getElem_of_mem hu;by_cases hjp:p=j
 ·subst hjp;exact ⟨v,List.mem_iff_getElem.2 ⟨p,by rw [List.length_set];exact hj,List.getElem_set_self _⟩,h hj⟩
 ·exact ⟨us[j],List.mem_iff_getElem.2 ⟨j,by rw [List.length_set];exact hj,List.getElem_set_ne hjp _⟩,D1Q _⟩
theorem D1R{us us':List TUp}{r:I2}(h:L8 us r=some us')(hk:r.2.2.1≠4):C6K us us':=by
 simp only [L8] at h;split at h
 ·split at h
  ·cases h
  ·injection h with h;subst h
   intro u hu;refine ⟨u,?_,D1Q u⟩;rw [<- List.take_append_drop (B5 us r.2.2.2.1) us] at hu;rcases List.mem_append.1 hu with hu | hu
   ·exact List.mem_append_left _ hu
   ·exact List.mem_append_right _ (List.mem_cons_of_mem _ hu)
 ·split at h
  ·cases h
  ·split at h
   ·split at h
    ·cases h
    ·rename_i hc;injection h with h;subst h
     refine D8d fun hp=>?_
     rw [C7 (k:=kUp) (xs:=us) hp] at hc ⊢;rw [not_or] at hc;refine ⟨rfl,rfl,?_,?_,fun hd=>absurd hd hc.1⟩
     ·simp only [List.length_append];omega
     ·simp only [List.take_left]
   ·split at h
    ·split at h
     ·cases h
     ·injection h with h;subst h
      refine D8d fun hp=>?_
      rw [C7 (k:=kUp) (xs:=us) hp];refine ⟨rfl,rfl,Nat.le_refl _,(List.take_length).symm,fun _=>⟨rfl,rfl⟩⟩
    ·cases h
theorem D1S:∀ {l:List I2} {us us':List TUp},I1 us l=some us'->(∀ r∈l,r.2.2.1≠4)->C6K us us'
 | [],us,us',h,_=>by
  simp only [I1,Option.some.injEq] at h;subst h;exact D5L _
 | r::l,us,us',h,hk=>by
  simp only [I1] at h;split at h
  ·rename_i us1 e1;exact E1M (D1R e1 (hk r List.mem_cons_self)) (D1S h fun x hx=>hk x (List.mem_cons_of_mem _ hx))
  ·cases h
theorem C6L{L:List I2}{a b:Nat}{ua ub:List TUp}(hab:a<=b)(ha:I1 [] (L.take a)=some ua)(hb:I1 [] (L.take b)=some ub)(hk:∀ r∈L,r.2.2.1≠4):C6K ua ub:=by
 have e:L.take b=L.take a++(L.take b).drop a:=by
  have:=List.take_append_drop a (L.take b);rw [List.take_take,Nat.min_eq_left hab] at this;exact this.symm
 rw [e,B9a,ha] at hb;exact D1S hb fun r hr=>hk r (List.mem_of_mem_take (List.mem_of_mem_drop hr))
structure OkU (f:List Int) (u:TUp):Prop where
 want:@Eq Int u.2.1 (f.length:Int)
 len:List.length u.2.2.1<=f.length
 dat:u.2.2.1=f.take (List.length u.2.2.1)
 fin:u.2.2.2=true->List.length u.2.2.1=f.length
theorem F04{f:List Int}{u v:TUp}(h:LeU u v)(hv:OkU f v):OkU f u:=by
 refine ⟨h.want.trans hv.want,Nat.le_trans h.len hv.len,?_,fun hd=>?_⟩
 ·have h1:=h.dat;rw [hv.dat,List.take_take,Nat.min_eq_left h.len] at h1;exact h1
 ·obtain ⟨g1,g2⟩:=h.fin hd;rw [<- g2];exact hv.fin g1
structure ClG (c:A8):Prop where
 ok:G6 c=true
 lo:c.2.2.1≠6
 byt:Byt c.2.1
 off:c.2.2.1=3->c.2.2.2<(c.2.1.length:Int)
def Fits(c:A8)(r:S9):Prop:=
 (c.2.2.1=1/\(r=(201,0)\/(∃ o:Nat,o<=c.2.1.length/\r=(409,(o:Int)))\/r=(507,-1)))\/
 (c.2.2.1=2/\(r=(404,-1)\/∃ o:Nat,o<=c.2.1.length/\r=(200,(o:Int))))\/
 (c.2.2.1=3/\((∃ o:Nat,o<=c.2.1.length/\(r=(204,(o:Int))\/r=(409,(o:Int))))\/r=(404,-1)\/r=(507,-1)))\/
 (c.2.2.1=4/\(r=(200,-1)\/r=(404,-1)\/(∃ o:Nat,o<=c.2.1.length/\r=(409,(o:Int)))\/r=(507,-1)))
def Told(c:A8)(r:S9)(us:List TUp):Prop:=
 (r.2=-1\/∃ u∈us,u.1=c.1/\r.2<=(List.length u.2.2.1:Int))/\(c.2.2.1=4->r.1=200->∃ u∈us,u.1=c.1/\u.2.2.2=true)
theorem D5M{c:A8}{r:S9}{us vs:List TUp}(h:Told c r us)(hl:C6K us vs):Told c r vs:=by
 refine ⟨h.1.elim .inl fun ⟨u,hu,e,hle⟩=>?_,fun h4 h2=>?_⟩
 ·obtain ⟨v,hv,hlu⟩:=hl u hu;have:=hlu.len;exact .inr ⟨v,hv,hlu.id.symm.trans e,by omega⟩
 ·obtain ⟨u,hu,e,hd⟩:=h.2 h4 h2;obtain ⟨v,hv,hlu⟩:=hl u hu;exact ⟨v,hv,hlu.id.symm.trans e,(hlu.fin hd).1⟩
def F05(c:A8)(st st':A6):Prop:=st' = st\/∃ r us,B8E r/\r.1=st.2.1/\r.2.1=st.2.2.1/\st.2.2.1<(st.1.1.length:Int)/\L8 st.2.2.2 r=some us/\r.2.2.1≠4/\st' = wrote st r us/\∀ u∈us,u∈st.2.2.2\/(u.1=c.1/\OkU c.2.1 u)
theorem C1A{st:A6}{id:X0}(h:H6 st.2.2.2 id=true):∃ u∈st.2.2.2,u.1=id/\lenOf st id=(List.length u.2.2.1:Int)/\rd kUp st.2.2.2 (B5 st.2.2.2 id:Int)=u:=by
 obtain ⟨hlt,e⟩:=H1.1 h;refine ⟨_,List.getElem_mem hlt,D05 e,?_,C7 (k:=kUp) (xs:=st.2.2.2) hlt⟩;unfold lenOf;rw [if_pos h,C7 (k:=kUp) (xs:=st.2.2.2) hlt]
theorem A2w{c:A8}(h:ClG c):idB c.1=true/\c.2.1.length<=400/\1<=c.2.2.1/\c.2.2.1<=5/\0<=c.2.2.2/\c.2.2.2<=(c.2.1.length:Int):=by
 have h1:=h.ok;simp only [G6,Bool.and_eq_true,decide_eq_true_eq] at h1;have:=h.lo;refine ⟨h1.1.1.1,?_⟩;omega
theorem E4p{c:A8}(hc:ClG c){st:A6}(hR:Rt st)(hu:∀ u∈st.2.2.2,u.1=c.1->OkU c.2.1 u){r:A0t}{dat:List Int}(hq:J6 c=(r,dat,true,())) :
  F05 c st (A7T st r dat).1/\Fits c (A7T st r dat).2/\Told c (A7T st r dat).2 (A7T st r dat).1.2.2.2:=by
 obtain ⟨hid,hlen,h1,h5,o0,o1⟩:=A2w hc;obtain ⟨r5,r200⟩:=F03 hR;have tell:H6 st.2.2.2 c.1=true->∃ o:Nat,o<=c.2.1.length/\lenOf st c.1=(o:Int)/\∃ u∈st.2.2.2,u.1=c.1/\(o:Int)<=(List.length u.2.2.1:Int):=fun hh=>by
  obtain ⟨u,hm,e,hl,_⟩:=C1A hh;exact ⟨_,(hu u hm e).len,hl,u,hm,e,Int.le_refl _⟩
 unfold J6 at hq;rw [hc.ok] at hq;simp only [Bool.true_eq_false,if_false] at hq;split at hq
 ·rename_i s1;injection hq with q1 q2
  injection q2 with q2 _
  subst q1;subst q2;simp only [A7T,if_true];have hcode:∀ k,(A49 st c.1 (c.2.1.length:Int)).2=k->k=0\/k=3/\H6 st.2.2.2 c.1=true\/k=5:=by
   intro k hk;unfold A49 at hk;rw [if_pos ⟨hid,by omega,by omega⟩] at hk;split at hk
   ·rename_i hh;exact .inr (.inl ⟨hk.symm,hh⟩)
   ·split at hk
    ·exact .inr (.inr hk.symm)
    ·exact .inl hk.symm
  by_cases hz:(A49 st c.1 (c.2.1.length:Int)).2=0
  ·rw [if_pos hz];have hz':=hz;unfold A49 at hz' ⊢;rw [if_pos ⟨hid,by omega,by omega⟩] at hz' ⊢;split at hz'
   ·simp at hz'
   ·rename_i hh;rw [if_neg hh];split at hz'
    ·simp at hz'
    ·rename_i h10;rw [if_neg h10];have hr:=B21 hR.g 1 (c.2.1.length:Int) c.1 hid (fun hx=>h10 (.inl hx)) (.inl ⟨rfl,by omega,by omega⟩);have hf:=C14 (st:=st) (id:=c.1) (want:=(c.2.1.length:Int)) hh (fun hx=>h10 (.inr hx));refine ⟨.inr ⟨_,_,⟨hr,T9⟩,rfl,rfl,by omega,hf,by simp,rfl,fun u hm=>?_⟩,.inl ⟨s1,.inl rfl⟩,.inr ⟨(c.1,(c.2.1.length:Int),[],false),?_,rfl,by simp⟩,fun h4=>by rw [s1] at h4;cases h4⟩
     ·rcases List.mem_append.1 hm with hm | hm
      ·exact .inl (List.mem_of_mem_take hm)
      ·rcases List.mem_cons.1 hm with rfl | hm
       ·exact .inr ⟨rfl,rfl,Nat.zero_le _,rfl,fun h=>by cases h⟩
       ·exact .inl (List.mem_of_mem_drop hm)
     ·show _∈_++_::_;simp
  ·rw [if_neg hz,B6j hz];rcases hcode _ rfl with h | ⟨h,hh⟩ | h
   ·exact absurd h hz
   ·obtain ⟨o,g1,g2,g3⟩:=tell hh;rw [h];have e:J0 st 3 c.1=(409,(o:Int)):=by unfold J0;rw [if_neg (by omega),if_pos (.inl rfl),g2]
    rw [e];exact ⟨.inl rfl,.inl ⟨s1,.inr (.inl ⟨o,g1,rfl⟩)⟩,.inr g3,fun h4=>by rw [s1] at h4;cases h4⟩
   ·rw [h];have e:J0 st 5 c.1=(507,-1):=by unfold J0;rw [if_neg (by omega),if_neg (by omega),if_pos rfl]
    rw [e];exact ⟨.inl rfl,.inl ⟨s1,.inr (.inr rfl)⟩,.inl rfl,fun h4=>by rw [s1] at h4;cases h4⟩
 ·split at hq
  ·rename_i s2;injection hq with q1 q2
   injection q2 with q2 _
   subst q1;subst q2;simp only [A7T];rw [if_neg (by omega),if_neg (by omega),if_neg (by omega),if_neg (by omega)];refine ⟨.inl rfl,?_⟩;unfold D6M;simp only;split
   ·rename_i hh;obtain ⟨o,g1,g2,g3⟩:=tell hh;rw [if_neg (by simp),g2];exact ⟨.inr (.inl ⟨s2,.inr ⟨o,g1,rfl⟩⟩),.inr g3,fun h4=>by rw [s2] at h4;cases h4⟩
   ·exact ⟨.inr (.inl ⟨s2,.inl rfl⟩),.inl rfl,fun h4=>by rw [s2] at h4;cases h4⟩
  ·split at hq
   ·rename_i s3;injection hq with q1 q2
    injection q2 with q2 _
    subst q1;have hoff:=hc.off s3;obtain ⟨ho,hoe⟩:∃ o:Nat,c.2.2.2=(o:Int):=⟨c.2.2.2.toNat,by omega⟩;rw [hoe,Int.toNat_natCast] at q2;have hdl:dat.length=min (ho+24) c.2.1.length-ho:=by rw [<- q2];simp [List.length_drop,List.length_take]
    have hbd:Byt dat:=by rw [<- q2];exact A9n (A5A hc.byt _) _
    have hpc:nPc dat=1:=by unfold nPc;omega
    simp only [A7T];rw [if_neg (by omega),if_pos trivial];have hcode:∀ k,(A6p st c.1 c.2.2.2 dat).2=k->k=0\/k=2\/k=4/\H6 st.2.2.2 c.1=true\/k=5:=by
     intro k hk;unfold A6p at hk;rw [if_pos ⟨hid,by omega,by omega⟩] at hk;split at hk
     ·rename_i hh;split at hk
      ·exact .inr (.inr (.inl ⟨hk.symm,hh⟩))
      ·split at hk
       ·exact .inr (.inr (.inr hk.symm))
       ·exact .inl hk.symm
     ·exact .inr (.inl hk.symm)
    by_cases hz:(A6p st c.1 c.2.2.2 dat).2=0
    ·rw [if_pos hz];obtain ⟨e1,e2,e3⟩:=B4d hR hbd hz;have hz':=hz;unfold A6p at hz' e1 ⊢;rw [if_pos ⟨hid,by omega,by omega⟩] at hz' e1 ⊢;split at hz'
     ·rename_i hh;rw [if_pos hh] at e1 ⊢;split at hz'
      ·simp at hz'
      ·rename_i h4;rw [if_neg h4] at e1 ⊢;split at hz'
       ·simp at hz'
       ·rename_i hl5;rw [if_neg hl5] at e1 ⊢;simp only [hpc] at e1 ⊢;have hcc:=C13 hR hbd hid (by omega) hh h4 hl5;obtain ⟨hr,hf,hI⟩:=B9S hcc (E75 hcc) (show 0<nPc dat by omega);have hpl:P1 24 dat 0=dat:=by unfold P1;rw [Nat.zero_mul,Nat.zero_add,List.drop_zero,List.take_of_length_le (by omega)]
        have hnx:=hcc.nx;obtain ⟨u0,hm0,hid0,hl0,hrd0⟩:=C1A hh;have hok0:=hu u0 hm0 hid0;have hnd:u0.2.2.2=false:=by have:=hcc.nd;rw [hrd0] at this;exact this
        have hat:c.2.2.2=(List.length u0.2.2.1:Int):=by rw [e2,hl0]
        have hnew:OkU c.2.1 (u0.1,u0.2.1,u0.2.2.1++dat,u0.2.2.2):=by
         refine ⟨hok0.want,?_,?_,fun hd=>by rw [hnd] at hd;cases hd⟩
         ·simp only [List.length_append];omega
         ·simp only [List.length_append];have hou:List.length u0.2.2.1=ho:=by omega
          have hd0:=hok0.dat;rw [hou] at hd0;rw [hou,hdl];rw [hd0,<- q2];have:=List.take_append_drop ho (c.2.1.take (min (ho+24) c.2.1.length));rw [List.take_take,Nat.min_eq_left (by omega)] at this;rw [this]
          congr 1
          omega
        have hcat:C4O st.2.2.2 c.1 dat=st.2.2.2.set (B5 st.2.2.2 c.1) (u0.1,u0.2.1,u0.2.2.1++dat,u0.2.2.2):=by unfold C4O;rw [hrd0]
        rw [hpl] at hr hf;have hmem:∀ u∈C4O st.2.2.2 c.1 dat,u∈st.2.2.2\/(u.1=c.1/\OkU c.2.1 u):=fun u hm=>by
         rw [hcat] at hm;rcases List.mem_or_eq_of_mem_set hm with hm | rfl
         ·exact .inl hm
         ·exact .inr ⟨hid0,hnew⟩
        have hput1:putAt st c.1 c.2.2.2 dat 1=wrote st (st.2.1,st.2.2.1,2,c.1,c.2.2.2+((0*24:Nat):Int),dat) (C4O st.2.2.2 c.1 dat):=by
         show E12 (putAt st c.1 c.2.2.2 dat 0) c.1 _ (P1 24 dat 0)=_;rw [hpl];rfl
        rw [hput1];refine ⟨.inr ⟨_,_,⟨hr,hbd⟩,rfl,rfl,by omega,hf,by simp,rfl,hmem⟩,.inr (.inr (.inl ⟨s3,.inl ⟨(c.2.2.2+(dat.length:Int)).toNat,by omega,.inl ?_⟩⟩)),.inr ?_,fun h4=>by rw [s3] at h4;cases h4⟩
        ·rw [Int.toNat_of_nonneg (by omega)]
        ·refine ⟨(u0.1,u0.2.1,u0.2.2.1++dat,u0.2.2.2),?_,hid0,by simp only [List.length_append];omega⟩;show _∈C4O st.2.2.2 c.1 dat;rw [hcat];obtain ⟨hlt,_⟩:=H1.1 hh;exact List.mem_iff_getElem.2 ⟨_,by rw [List.length_set];exact hlt,List.getElem_set_self _⟩
     ·simp at hz'
    ·rw [if_neg hz,C19 hz];rcases hcode _ rfl with h | h | ⟨h,hh⟩ | h
     ·exact absurd h hz
     ·rw [h];have e:J0 st 2 c.1=(404,-1):=by unfold J0;rw [if_pos rfl]
      rw [e];exact ⟨.inl rfl,.inr (.inr (.inl ⟨s3,.inr (.inl rfl)⟩)),.inl rfl,fun h4=>by rw [s3] at h4;cases h4⟩
     ·obtain ⟨o,g1,g2,g3⟩:=tell hh;rw [h];have e:J0 st 4 c.1=(409,(o:Int)):=by unfold J0;rw [if_neg (by omega),if_pos (.inr rfl),g2]
      rw [e];exact ⟨.inl rfl,.inr (.inr (.inl ⟨s3,.inl ⟨o,g1,.inr rfl⟩⟩)),.inr g3,fun h4=>by rw [s3] at h4;cases h4⟩
     ·rw [h];have e:J0 st 5 c.1=(507,-1):=by unfold J0;rw [if_neg (by omega),if_neg (by omega),if_pos rfl]
      rw [e];exact ⟨.inl rfl,.inr (.inr (.inl ⟨s3,.inr (.inr rfl)⟩)),.inl rfl,fun h4=>by rw [s3] at h4;cases h4⟩
   ·split at hq
    ·rename_i s4;injection hq with q1 q2
     injection q2 with q2 _
     subst q1;subst q2;simp only [A7T];rw [if_neg (by omega),if_neg (by omega),if_pos trivial];have hcrc:∀ u∈st.2.2.2,u.1=c.1->¬ (List.length u.2.2.1:Int)<u.2.1->u.2.2.1=c.2.1:=fun u hm e hl=>by
      have hk:=hu u hm e;have h7:=hk.want;have h8:=hk.len;have h9:=hk.dat;rw [List.take_of_length_le (by omega)] at h9;exact h9
     have hcode:∀ k,(A3Q st c.1 ((A6o c.2.1 ^^^ 4294967295:Nat):Int)).2=k->(k=0/\∃ u∈(A3Q st c.1 ((A6o c.2.1 ^^^ 4294967295:Nat):Int)).1.2.2.2,u.1=c.1/\u.2.2.2=true)\/k=2\/k=4/\H6 st.2.2.2 c.1=true\/k=5:=by
      intro k hk;unfold A3Q at hk ⊢;rw [if_pos hid] at hk ⊢;split at hk
      ·rename_i hh;obtain ⟨u0,hm0,hid0,hl0,hrd0⟩:=C1A hh;rw [if_pos hh];rw [hrd0] at hk ⊢;split at hk
       ·exact .inr (.inr (.inl ⟨hk.symm,hh⟩))
       ·rename_i hl;rw [if_neg hl];have hfd:=hcrc u0 hm0 hid0 hl;rw [hfd] at hk ⊢;simp only [ne_eq,not_true_eq_false,if_false] at hk ⊢;split at hk
        ·rename_i hd;rw [if_pos hd];exact .inl ⟨hk.symm,u0,hm0,hid0,hd⟩
        ·rename_i hd;rw [if_neg hd];split at hk
         ·exact .inr (.inr (.inr hk.symm))
         ·rename_i hle;rw [if_neg hle];refine .inl ⟨hk.symm,(u0.1,u0.2.1,c.2.1,true),?_,hid0,rfl⟩;obtain ⟨hlt,_⟩:=H1.1 hh;show _∈List.set _ _ _;exact List.mem_iff_getElem.2 ⟨_,by rw [List.length_set];exact hlt,List.getElem_set_self _⟩
      ·exact .inr (.inl hk.symm)
     by_cases hz:(A3Q st c.1 ((A6o c.2.1 ^^^ 4294967295:Nat):Int)).2=0
     ·rw [if_pos hz];rcases hcode _ rfl with ⟨_,hd⟩ | h | ⟨h,_⟩ | h
      ·refine ⟨?_,.inr (.inr (.inr ⟨s4,.inl rfl⟩)),.inl rfl,fun _ _=>hd⟩;have hz':=hz;unfold A3Q at hz' ⊢;rw [if_pos hid] at hz' ⊢;split at hz'
       ·rename_i hh;rw [if_pos hh];split at hz'
        ·simp at hz'
        ·rename_i hl;rw [if_neg hl];split at hz'
         ·simp at hz'
         ·rename_i hcr;rw [if_neg hcr];split at hz'
          ·rename_i hd;rw [if_pos hd];exact .inl rfl
          ·rename_i hd;rw [if_neg hd];split at hz'
           ·simp at hz'
           ·rename_i hle;rw [if_neg hle];have hr:=B21 hR.g 3 0 c.1 hid hle (.inr ⟨.inl rfl,rfl⟩);have hf:=C15 hR.up hh hl hd;obtain ⟨u0,hm0,hid0,hl0,hrd0⟩:=C1A hh;have hok0:=hu u0 hm0 hid0;refine .inr ⟨_,_,⟨hr,T9⟩,rfl,rfl,by omega,hf,by simp,rfl,fun u hm=>?_⟩;rw [hrd0] at hm hl;rcases List.mem_or_eq_of_mem_set hm with hm | rfl
            ·exact .inl hm
            ·have h7:=hok0.want;have h8:=hok0.len;exact .inr ⟨hid0,hok0.want,hok0.len,hok0.dat,fun _=>by show List.length u0.2.2.1=_;omega⟩
       ·simp at hz'
      ·rw [h] at hz;cases hz
      ·rw [h] at hz;cases hz
      ·rw [h] at hz;cases hz
     ·rw [if_neg hz,B6k hz];rcases hcode _ rfl with ⟨h,_⟩ | h | ⟨h,hh⟩ | h
      ·exact absurd h hz
      ·rw [h];have e:J0 st 2 c.1=(404,-1):=by unfold J0;rw [if_pos rfl]
       rw [e];exact ⟨.inl rfl,.inr (.inr (.inr ⟨s4,.inr (.inl rfl)⟩)),.inl rfl,fun _ h2=>by cases h2⟩
      ·obtain ⟨o,g1,g2,g3⟩:=tell hh;rw [h];have e:J0 st 4 c.1=(409,(o:Int)):=by unfold J0;rw [if_neg (by omega),if_pos (.inr rfl),g2]
       rw [e];exact ⟨.inl rfl,.inr (.inr (.inr ⟨s4,.inr (.inr (.inl ⟨o,g1,rfl⟩))⟩)),.inr g3,fun _ h2=>by cases h2⟩
      ·rw [h];have e:J0 st 5 c.1=(507,-1):=by unfold J0;rw [if_neg (by omega),if_neg (by omega),if_pos rfl]
       rw [e];exact ⟨.inl rfl,.inr (.inr (.inr ⟨s4,.inr (.inr (.inr rfl))⟩)),.inl rfl,fun _ h2=>by cases h2⟩
    ·unfold C7W at hq;injection hq with _ hq
     injection hq with _ hq
     injection hq with hq _
     cases hq
theorem E4q{c:A8}(hc:ClG c){r:S9}(hf:Fits c r):ClG (hear c r)/\(hear c r).1=c.1/\(hear c r).2.1=c.2.1/\((hear c r).2.2.1=5->c.2.2.1=4/\r.1=200)/\A59 c=false:=by
 obtain ⟨hid,hlen,h1,h5,o0,o1⟩:=A2w hc;have mk:∀ (s o:Int),1<=s->s<=5->0<=o->o<=(c.2.1.length:Int)->(s=3->o<(c.2.1.length:Int))->ClG (c.1,c.2.1,s,o):=fun s o g1 g2 g3 g4 g5=>by
  refine ⟨?_,by show s≠6;omega,hc.byt,g5⟩;simp only [G6,Bool.and_eq_true,decide_eq_true_eq];refine ⟨⟨⟨hid,by omega⟩,by omega⟩,by omega⟩
 have far_ok:∀ o:Nat,o<=c.2.1.length->ClG (far c (o:Int))/\(far c (o:Int)).1=c.1/\(far c (o:Int)).2.1=c.2.1/\(far c (o:Int)).2.2.1≠5:=fun o ho=>by
  unfold far;rw [if_pos ⟨by omega,by omega⟩];split
  ·exact ⟨mk 4 _ (by omega) (by omega) (by omega) (by omega) (fun h=>by cases h),rfl,rfl,by simp⟩
  ·exact ⟨mk 3 _ (by omega) (by omega) (by omega) (by omega) (fun _=>by omega),rfl,rfl,by simp⟩
 have ov:∀ s:Int,c.2.2.1=s->s≠5->s≠6->A59 c=false:=fun s e n5 n6=>by
  unfold A59;rw [e,A4 n5,A4 n6];rfl
 have stay:∀ (st o:Int) (s:Int),A47 c.2.2.1 st=s->s≠0->s≠5->1<=s->s<=4->(s=3->c.2.2.2<(c.2.1.length:Int))->ClG (hear c (st,o))/\(hear c (st,o)).1=c.1/\(hear c (st,o)).2.1=c.2.1/\(hear c (st,o)).2.2.1≠5:=fun st o s e n0 n5 g1 g2 g3=>by
  unfold hear;simp only [e];rw [if_neg n0];exact ⟨mk s _ g1 (by omega) o0 o1 g3,rfl,rfl,n5⟩
 have goFar:∀ (st:Int) (o:Nat),A47 c.2.2.1 st=0->o<=c.2.1.length->ClG (hear c (st,(o:Int)))/\(hear c (st,(o:Int))).1=c.1/\(hear c (st,(o:Int))).2.1=c.2.1/\(hear c (st,(o:Int))).2.2.1≠5:=fun st o e ho=>by
  unfold hear;simp only [e];exact far_ok o ho
 have fin:∀ {r:S9},(ClG (hear c r)/\(hear c r).1=c.1/\(hear c r).2.1=c.2.1/\(hear c r).2.2.1≠5)->A59 c=false->ClG (hear c r)/\(hear c r).1=c.1/\(hear c r).2.1=c.2.1/\((hear c r).2.2.1=5->c.2.2.1=4/\r.1=200)/\A59 c=false:=fun h ho=>⟨h.1,h.2.1,h.2.2.1,fun e=>absurd e h.2.2.2,ho⟩
 rcases hf with ⟨s,h | ⟨o,ho,h⟩ | h⟩ | ⟨s,h | ⟨o,ho,h⟩⟩ | ⟨s,⟨o,ho,h | h⟩ | h | h⟩ | ⟨s,h | h | ⟨o,ho,h⟩ | h⟩<;>subst h
 ·exact fin (goFar 201 0 (by rw [s];rfl) (Nat.zero_le _)) (ov _ s (by omega) (by omega))
 ·exact fin (stay 409 _ 2 (by rw [s];rfl) (by omega) (by omega) (by omega) (by omega) (fun h=>by cases h)) (ov _ s (by omega) (by omega))
 ·exact fin (stay 507 _ 1 (by rw [s];rfl) (by omega) (by omega) (by omega) (by omega) (fun h=>by cases h)) (ov _ s (by omega) (by omega))
 ·exact fin (stay 404 _ 1 (by rw [s];rfl) (by omega) (by omega) (by omega) (by omega) (fun h=>by cases h)) (ov _ s (by omega) (by omega))
 ·exact fin (goFar 200 o (by rw [s];rfl) ho) (ov _ s (by omega) (by omega))
 ·exact fin (goFar 204 o (by rw [s];rfl) ho) (ov _ s (by omega) (by omega))
 ·exact fin (goFar 409 o (by rw [s];rfl) ho) (ov _ s (by omega) (by omega))
 ·exact fin (stay 404 _ 1 (by rw [s];rfl) (by omega) (by omega) (by omega) (by omega) (fun h=>by cases h)) (ov _ s (by omega) (by omega))
 ·exact fin (stay 507 _ 3 (by rw [s];rfl) (by omega) (by omega) (by omega) (by omega) (fun _=>hc.off s)) (ov _ s (by omega) (by omega))
 ·refine ⟨?_,?_,?_,fun _=>⟨s,rfl⟩,ov _ s (by omega) (by omega)⟩
  ·have e:hear c (200,-1)=(c.1,c.2.1,5,c.2.2.2):=by unfold hear;rw [s];rfl
   rw [e];exact mk 5 _ (by omega) (by omega) o0 o1 (fun h=>by cases h)
  ·unfold hear;rw [s];rfl
  ·unfold hear;rw [s];rfl
 ·exact fin (stay 404 _ 1 (by rw [s];rfl) (by omega) (by omega) (by omega) (by omega) (fun h=>by cases h)) (ov _ s (by omega) (by omega))
 ·exact fin (stay 409 _ 2 (by rw [s];rfl) (by omega) (by omega) (by omega) (by omega) (fun h=>by cases h)) (ov _ s (by omega) (by omega))
 ·exact fin (stay 507 _ 4 (by rw [s];rfl) (by omega) (by omega) (by omega) (by omega) (fun h=>by cases h)) (ov _ s (by omega) (by omega))
theorem B27{c:A8}(hc:ClG c):ClG (H4 c)/\(H4 c).1=c.1/\(H4 c).2.1=c.2.1/\((H4 c).2.2.1=5->c.2.2.1=5):=by
 obtain ⟨hid,hlen,h1,h5,o0,o1⟩:=A2w hc;unfold H4;split
 ·refine ⟨⟨?_,by show (2:Int)≠6;omega,hc.byt,fun h=>by cases h⟩,rfl,rfl,fun h=>by cases h⟩;simp only [G6,Bool.and_eq_true,decide_eq_true_eq];refine ⟨⟨⟨hid,by omega⟩,by omega⟩,by omega⟩
 ·exact ⟨hc,rfl,rfl,fun h=>h⟩
theorem E7B{w:A5}(h:Sm 1048576 D67 w):E73 w:=
 ⟨E8e (Nat.le_refl _) (Sm.l (Sm.l (Sm.l (Sm.l h)))),(Sm.r (Sm.l h)).1,⟨(Sm.l (Sm.r h)).1,fun c hc=>by
  have h1:Sm 1048576 B3 c:=(Sm.l (Sm.r h)).2 c hc;have h2:c.1.size<=1048576:=Sm.l h1;simp only [maxLen];omega⟩,⟨(Sm.l (Sm.r (Sm.r (Sm.r h)))).1,fun a ha=>by
  have h1:Sm 1048576 E5 a:=(Sm.l (Sm.r (Sm.r (Sm.r h)))).2 a ha;have h2:a.2.1.2.1.size<=1048576:=Sm.l (Sm.r (Sm.l (Sm.r h1)));simp only [maxLen];omega⟩,(Sm.l (Sm.r (Sm.r (Sm.r (Sm.r h))))).1⟩
abbrev C7h:K:=(.pair .str (.pair (.rs 5 (.int .u8)) D8))
abbrev D6N:K:=(.pair (.int .i64) (.pair A06 (.rs 5 (.int .u8))))
theorem A28(k:K){xs:List k.T}{i:Nat}{x:k.T}(h:xs[i]? = some x):rd k xs (i:Int)=x:=by
 obtain ⟨hi,e⟩:=List.getElem?_eq_some_iff.1 h;rw [C7 (k:=k) hi,e]
def cW(i:Nat)(l:List M6):Nat:=l.countP fun a=>decide (a.1=(i:Int))
def cH(i:Nat)(l:List C1):Nat:=l.countP fun a=>decide (a.1=(i:Int))
structure WI (k c:Nat) (uc:List TUp) (st:A6) (held:List C1) (cls:List A8) (busy:List Bool) (asks:List M6) (tells:List C1) (best:List Int):Prop where
 dur:Dur st c
 ep:st.2.1<=(k:Int)
 nd:∀ r∈B7 st.1.1,r.2.2.1≠4
 fuc:I1 [] ((B7 st.1.1).take c)=some uc
 n6:cls.length<=6
 lb:busy.length=cls.length
 lt:best.length=cls.length
 dist:∀ (i j:Nat) (a b:A8),cls[i]? = some a->cls[j]? = some b->a.1=b.1->i=j
 cl:∀ (i:Nat) (a:A8),cls[i]? = some a->ClG a
 cnt:∀ (i:Nat) b,busy[i]? = some b->cW i asks+cH i held+cH i tells=if b=true then 1 else 0
 dn:∀ (i:Nat) (a:A8),cls[i]? = some a->a.2.2.1=5->busy[i]? = some false
 ask:∀ a∈asks,∃ (i:Nat) (cl:A8),cls[i]? = some cl/\a.1=(i:Int)/\J6 cl=(a.2.1,a.2.2,true,())
 hld:∀ h∈held,∃ (i:Nat) (cl:A8),cls[i]? = some cl/\h.1=(i:Int)/\Fits cl h.2/\Told cl h.2 st.2.2.2
 tell:∀ h∈tells,∃ (i:Nat) (cl:A8),cls[i]? = some cl/\h.1=(i:Int)/\Fits cl h.2/\Told cl h.2 uc
 bst:∀ (i:Nat) (a:A8) (b:Int),cls[i]? = some a->best[i]? = some b->b=-1\/∃ u∈uc,u.1=a.1/\b<=(List.length u.2.2.1:Int)
 ends:∀ (i:Nat) (a:A8),cls[i]? = some a->a.2.2.1=5->∃ u∈uc,u.1=a.1/\u.2.2.2=true
 oku:∀ u∈st.2.2.2,∃ (i:Nat) (a:A8),cls[i]? = some a/\u.1=a.1/\OkU a.2.1 u
 la:asks.length<=60
 l6:tells.length<=60
 lh:held.length<=200
def WIw(k:Nat)(w:A5):Prop:=∃ c uc,WI k c uc w.1.1 w.1.2 w.2.1 w.2.2.1 w.2.2.2.1 w.2.2.2.2.1 w.2.2.2.2.2
theorem wiw{k c:Nat}{uc:List TUp}{st:A6}{held cls busy asks tells best}(h:WI k c uc st held cls busy asks tells best):WIw k (((st,held),(cls,(busy,(asks,(tells,best))))):A5):=⟨c,uc,h⟩
theorem E9M{k c:Nat}{uc:List TUp}{st:A6}{held cls busy asks tells best}(h:WI k c uc st held cls busy asks tells best):C6K uc st.2.2.2:=by
 have h1:=h.dur.g.up;rw [<- List.take_length (l:=B7 st.1.1)] at h1;exact C6L h.dur.le h.fuc h1 h.nd
def rm{α:Type}(l:List α)(j:Nat):List α:=l.take j++l.drop (j+1)
theorem E7C{α:Type}{l:List α}{j:Nat}{a:α}(h:l[j]? = some a):l=l.take j++a::l.drop (j+1):=by
 obtain ⟨hj,e⟩:=List.getElem?_eq_some_iff.1 h;rw [<- e,<- List.drop_eq_getElem_cons hj,List.take_append_drop]
theorem D8e{α:Type}(p:α->Bool){l:List α}{j:Nat}{a:α}(h:l[j]? = some a):l.countP p=(rm l j).countP p+(if p a=true then 1 else 0):=by
 conv=>lhs;rw [E7C h]
 unfold rm;rw [List.countP_append,List.countP_append,List.countP_cons];omega
theorem D1T{α:Type}{l:List α}{j:Nat}{x:α}(h:x∈rm l j):x∈l:=(List.mem_append.1 h).elim List.mem_of_mem_take List.mem_of_mem_drop
theorem D6O{α:Type}{l:List α}{j:Nat}(h:j<l.length):(rm l j).length+1=l.length:=by
 simp only [rm,List.length_append,List.length_take,List.length_drop];omega
theorem C1B{α:Type}{l:List α}{i j:Nat}{v x:α}(h:(l.set i v)[j]? = some x):(j=i/\x=v)\/(j≠i/\l[j]? = some x):=by
 rw [List.getElem?_set] at h;split at h
 ·rename_i e;split at h
  ·injection h with h
   exact .inl ⟨e.symm,h.symm⟩
  ·cases h
 ·rename_i e;exact .inr ⟨fun x=>e x.symm,h⟩
theorem C3Q{α:Type}{p:α->Bool}{l:List α}(h:l.countP p=0){a:α}(ha:a∈l):¬ p a=true:=List.countP_eq_zero.1 h a ha
theorem D6P{k c:Nat}{uc:List TUp}{st:A6}{held cls busy asks tells best}(h:WI k c uc st held cls busy asks tells best):Rt st/\A8v st/\E7 st=some (true,()):=by
 obtain ⟨a,b,c,_⟩:=B25 h.dur.g;exact ⟨a,b,c⟩
theorem C1C{a:A8}(h:ClG a):a.1.size<=maxLen:=by
 obtain ⟨h1,_⟩:=A2w h;have:a.1.size<=8:=by simp only [idB,Bool.and_eq_true,decide_eq_true_eq] at h1;omega
 simp only [maxLen];omega
theorem E8k(k:Nat)(w:A5)(h:WIw k w)(i:Int)(hi:i<9223372036854775807):∃ b w',A1c w i=some (b,w',())/\WIw k w':=by
 obtain ⟨⟨st,held⟩,cls,busy,asks,tells,best⟩:=w;obtain ⟨c,uc,h⟩:=h;simp only at h;have hn:=h.n6;have hlb:=h.lb;have same:WIw k (((st,held),(cls,(busy,(asks,(tells,best))))):A5):=⟨c,uc,h⟩;simp only [A1c,A9M,P7,bO];rw [w64 (n:=(cls.length:Int)-1) (by omega) (by omega)];by_cases hr:0<=i/\i<=(cls.length:Int)-1
 ·obtain ⟨i,rfl⟩:∃ j:Nat,i=(j:Int):=⟨i.toNat,by omega⟩;have hic:i<cls.length:=by omega
  obtain ⟨cl,hcl⟩:∃ x,cls[i]? = some x:=⟨_,List.getElem?_eq_getElem hic⟩;obtain ⟨b,hb⟩:∃ x,busy[i]? = some x:=⟨_,List.getElem?_eq_getElem (by omega)⟩;have hg:=h.cl i cl hcl;rw [A0 hr,A0 (show (0:Int)<=(i:Int) by omega),A0 (show (i:Int)<(busy.length:Int) by omega),A0 (show (i:Int)<(cls.length:Int) by omega),A28 .bool hb,A28 C7h hcl,C4H cl (C1C hg) hg.byt];simp only [Bool.not_true,cond_false,cond_true];cases b with
  | true=>exact ⟨false,_,rfl,same⟩
  | false=>
   simp only [cond_false];by_cases h60:(asks.length:Int)=60
   ·rw [A0 h60];exact ⟨false,_,rfl,same⟩
   ·rw [A4 h60];have hla:=h.la;simp only [cond_false,B8,bO];generalize hq:J6 cl=q;obtain ⟨r,dat,ok,u⟩:=q;cases ok with
    | false=>exact ⟨false,_,rfl,same⟩
    | true=>
     simp only [Bool.not_true,cond_false];rw [A0 (by simp;omega),A0 (by simp;omega)];refine ⟨true,_,rfl,wiw (c:=c) (uc:=uc) ?_⟩;have hpend:=h.cnt i false hb;simp only [Bool.false_eq_true,if_false] at hpend;have hcount:∀ j:Nat,cW j (asks ++ [((i:Int),(r,dat))])=cW j asks+if j=i then 1 else 0:=fun j=>by
      unfold cW;rw [List.countP_append,List.countP_singleton];by_cases hji:j=i
      ·subst hji;simp
      ·rw [if_neg hji];simp;omega
     have hs5:cl.2.2.1≠5:=fun e=>by
      unfold J6 at hq;rw [hg.ok,e] at hq;simp [C7W] at hq
     refine {h with lb:=?_,cnt:=?_,dn:=?_,ask:=?_,la:=?_}
     ·simp only [List.length_set];exact h.lb
     ·intro j b' hb';rw [hcount j];rw [Int.toNat_natCast] at hb';rcases C1B hb' with ⟨rfl,rfl⟩ | ⟨hne,hb'⟩
      ·rw [if_pos rfl,if_pos rfl];omega
      ·have:=h.cnt j b' hb';rw [if_neg hne];omega
     ·intro j a ha h5;rw [Int.toNat_natCast,List.getElem?_set_ne (fun e=>?_)]
      ·exact h.dn j a ha h5
      ·subst e;rw [hcl] at ha;injection ha with ha
       rw [ha] at hs5;exact hs5 h5
     ·intro a ha;rcases List.mem_append.1 ha with ha | ha
      ·exact h.ask a ha
      ·rw [List.mem_singleton.1 ha];exact ⟨i,cl,hcl,rfl,hq⟩
     ·simp only [List.length_append,List.length_cons,List.length_nil];omega
 ·rw [A4 hr];exact ⟨false,_,rfl,same⟩
theorem E7D(k:Nat)(w:A5)(h:WIw k w)(j:Int)(hj:j<9223372036854775807):∃ b w',A10 w j=some (b,w',())/\WIw k w':=by
 obtain ⟨⟨st,held⟩,cls,busy,asks,tells,best⟩:=w;obtain ⟨c,uc,h⟩:=h;simp only at h;have hn:=h.n6;have hla:=h.la;have hlh:=h.lh;have same:WIw k (((st,held),(cls,(busy,(asks,(tells,best))))):A5):=⟨c,uc,h⟩;simp only [A10,A7J,P7,bO];rw [w64 (n:=(asks.length:Int)-1) (by omega) (by omega)];by_cases hr:0<=j/\j<=(asks.length:Int)-1
 ·obtain ⟨j,rfl⟩:∃ q:Nat,j=(q:Int):=⟨j.toNat,by omega⟩;have hjl:j<asks.length:=by omega
  rw [A0 hr];simp only [Bool.not_true,cond_false];by_cases h200:(held.length:Int)=200
  ·rw [A0 h200];exact ⟨false,_,rfl,same⟩
  rw [A4 h200];obtain ⟨a,ha⟩:∃ x,asks[j]? = some x:=⟨_,List.getElem?_eq_getElem hjl⟩;obtain ⟨i,cl,hcl,hai,hq⟩:=h.ask a (List.mem_of_getElem? ha);have hg:=h.cl i cl hcl;obtain ⟨hR,hS,hok⟩:=D6P h;have huc:=E9M h;simp only [cond_false,B8];rw [A28 D6N ha,w64 (n:=(j:Int)+1) (by omega) (by omega),A0 (show (0:Int)<=(j:Int) by omega),A0 (show (j:Int)<(asks.length:Int) by omega),A0 (show (j:Int)<=(asks.length:Int) by omega),
   A0 (show (0:Int)<=(j:Int)+1 by omega),A0 (show (j:Int)+1<=(asks.length:Int) by omega),A0 (by simp;omega),A0 (by simp;omega),A0 (by simp;omega),A0 (by simp;omega)]
  simp only [cond_true];have hdat:Byt a.2.2/\List.length a.2.2<=1048576:=by
   obtain ⟨_,h400,_⟩:=A2w hg;have hl:=B9F cl;rw [hq] at hl;refine ⟨?_,by have:List.length a.2.2<=cl.2.1.length:=hl;omega⟩;have hbb:Byt (J6 cl).2.1:=by
    unfold J6 C7W
    repeat' split
    all_goals first | exact T9 | exact A9n (A5A hg.byt _) _
   rw [hq] at hbb;exact hbb
  have hreq:a.2.1.2.1.size<=maxLen/\(-9223372036854775808<=a.2.1.2.2/\a.2.1.2.2<=9223372036854775807):=by
   obtain ⟨_,h400,_,_,o0,o1⟩:=A2w hg;have hcs:=C1C hg;have hcrc:=B16 hg.byt;have hx:A6o cl.2.1 ^^^ 4294967295<2 ^ 32:=Nat.xor_lt_two_pow hcrc (by omega);have e:(J6 cl).1.2.1.size<=maxLen/\(-9223372036854775808<=(J6 cl).1.2.2/\(J6 cl).1.2.2<=9223372036854775807):=by
    unfold J6 C7W
    repeat' split
    all_goals first | exact ⟨hcs,by simp only;omega⟩ | exact ⟨Nat.zero_le _,by simp only;omega⟩
   rw [hq] at e;exact e
  have hdo:=D5K st a.2.1 a.2.2 hreq.1 hR hS hok hdat.1 hdat.2 hreq.2;have hdo':H5 ((st.1.1,st.1.2),(st.2.1,(st.2.2.1,st.2.2.2))) a.2.1 a.2.2=_:=hdo;rw [hdo];simp only [bO];rw [A0 (by simp;omega),A0 (by simp;omega)];have hser:=E4p hg hR (fun u hu e=>by
   obtain ⟨i',a',h1,h2,h3⟩:=h.oku u hu;have:=h.dist i' i a' cl h1 hcl (by rw [<- h2,e]);subst this;rw [hcl] at h1;injection h1 with h1;rw [h1];exact h3) hq
  generalize A7T st a.2.1 a.2.2=ans at hser ⊢;obtain ⟨st',resp⟩:=ans;obtain ⟨hsv,hfit,htold⟩:=hser;simp only at hsv hfit htold;refine ⟨true,_,rfl,wiw (c:=c) (uc:=uc) ?_⟩;have hst:Dur st' c/\st'.2.1=st.2.1/\(∀ r∈B7 st'.1.1,r.2.2.1≠4)/\(B7 st'.1.1).take c=(B7 st.1.1).take c/\C6K st.2.2.2 st'.2.2.2/\∀ u∈st'.2.2.2,u∈st.2.2.2\/(u.1=cl.1/\OkU cl.2.1 u):=by
   rcases hsv with rfl | ⟨r,us,g1,g2,g3,g4,g5,g6,rfl,g7⟩
   ·exact ⟨h.dur,rfl,h.nd,rfl,D5L _,fun u hu=>.inl hu⟩
   ·have hsc:=(B22 h.dur.g g1 g2 g3 g4 g5).2;refine ⟨D5J h.dur g1 g2 g3 g4 g5,rfl,fun x hx=>?_,?_,D1R g5 g6,g7⟩
    ·rw [hsc] at hx;rcases List.mem_append.1 hx with hx | hx
     ·exact h.nd x hx
     ·rw [List.mem_singleton.1 hx];exact g6
    ·rw [hsc,List.take_append_of_le_length h.dur.le]
  obtain ⟨k1,k2,k3,k4,k5,k6⟩:=hst;have hrm:([]++(asks.take (j:Int).toNat).drop 0)++(asks.take asks.length).drop ((j:Int)+1).toNat=rm asks j:=by
   unfold rm;rw [Int.toNat_natCast,show ((j:Int)+1).toNat=j+1 by omega,List.drop_zero,List.take_length];rfl
  simp only [hrm];have hcn:∀ i':Nat,cW i' asks=cW i' (rm asks j)+if (i':Int)=a.1 then 1 else 0:=fun i'=>by
   have:=D8e (fun x:M6=>decide (x.1=(i':Int))) ha;unfold cW;rw [this];by_cases e:(i':Int)=a.1
   ·rw [if_pos e,if_pos (by simp [e])]
   ·rw [if_neg e,if_neg (by simp;omega)]
  have hch:∀ i':Nat,cH i' (held ++ [(a.1,resp)])=cH i' held+if (i':Int)=a.1 then 1 else 0:=fun i'=>by
   unfold cH;rw [List.countP_append,List.countP_singleton];by_cases e:(i':Int)=a.1
   ·rw [if_pos e,if_pos (by simp [e])]
   ·rw [if_neg e,if_neg (by simp;omega)]
  refine {h with dur:=k1,ep:=by rw [k2];exact h.ep,nd:=k3,fuc:=by rw [k4];exact h.fuc,cnt:=?_,ask:=?_,hld:=?_,oku:=?_,la:=?_,lh:=?_}
  ·intro i' b hb;have:=h.cnt i' b hb;have h1:=hcn i';have h2:=hch i';omega
  ·exact fun x hx=>h.ask x (D1T hx)
  ·intro x hx;rcases List.mem_append.1 hx with hx | hx
   ·obtain ⟨i',a',h1,h2,h3,h4⟩:=h.hld x hx;exact ⟨i',a',h1,h2,h3,D5M h4 k5⟩
   ·rw [List.mem_singleton.1 hx];exact ⟨i,cl,hcl,hai,hfit,htold⟩
  ·intro u hu;rcases k6 u hu with hu | ⟨e,hu⟩
   ·exact h.oku u hu
   ·exact ⟨i,cl,hcl,e,hu⟩
  ·have:=D6O hjl;omega
  ·simp only [List.length_append,List.length_cons,List.length_nil];omega
 ·rw [A4 hr];exact ⟨false,_,rfl,same⟩
theorem E8l(k:Nat)(w:A5)(h:WIw k w):∃ b w',A40 w=some (b,w',())/\WIw k w':=by
 obtain ⟨⟨st,held⟩,cls,busy,asks,tells,best⟩:=w;obtain ⟨c,uc,h⟩:=h;simp only at h;have hl6:=h.l6;have hlh:=h.lh;have same:WIw k (((st,held),(cls,(busy,(asks,(tells,best))))):A5):=⟨c,uc,h⟩;obtain ⟨hR,hS,hok⟩:=D6P h;have huc:=E9M h;simp only [A40,B2w];rw [w64 (n:=(tells.length:Int)+(held.length:Int)) (by omega) (by omega)];by_cases h60:(tells.length:Int)+(held.length:Int)>60
 ·rw [A0 h60];exact ⟨false,_,rfl,same⟩
 ·rw [A4 h60,A0 (by omega),A0 (by omega),B6W st.1 hS.1];simp only [cond_false,cond_true,bO];refine ⟨true,_,rfl,wiw (c:=(B7 st.1.1).length) (uc:=st.2.2.2) ?_⟩;have hup:=h.dur.g.up;have hd:=B24 h.dur.g;refine {h with dur:=hd,fuc:=by show I1 [] ((B7 st.1.1).take (B7 st.1.1).length)=_;rw [List.take_length];exact hup,cnt:=?_,hld:=fun x hx=>by (cases hx),tell:=?_,bst:=?_,ends:=?_,l6:=?_,lh:=by simp}
  ·intro i b hb;have:=h.cnt i b hb;have e:cH i (tells++held)=cH i tells+cH i held:=List.countP_append;rw [e];have e0:cH i ([]:List C1)=0:=rfl;rw [e0];omega
  ·intro x hx;rcases List.mem_append.1 hx with hx | hx
   ·obtain ⟨i,a,h1,h2,h3,h4⟩:=h.tell x hx;exact ⟨i,a,h1,h2,h3,D5M h4 huc⟩
   ·exact h.hld x hx
  ·intro i a b ha hb;rcases h.bst i a b ha hb with h1 | ⟨u,hu,e,hle⟩
   ·exact .inl h1
   ·obtain ⟨v,hv,hlu⟩:=huc u hu;have:=hlu.len;exact .inr ⟨v,hv,hlu.id.symm.trans e,by omega⟩
  ·intro i a ha h5;obtain ⟨u,hu,e,hd⟩:=h.ends i a ha h5;obtain ⟨v,hv,hlu⟩:=huc u hu;exact ⟨v,hv,hlu.id.symm.trans e,(hlu.fin hd).1⟩
  ·simp only [List.length_append];omega
theorem E8m(k:Nat)(w:A5)(h:WIw k w)(j:Int)(hj:j<9223372036854775807):∃ b w',A1f w j=some (b,w',())/\WIw k w':=by
 obtain ⟨⟨st,held⟩,cls,busy,asks,tells,best⟩:=w;obtain ⟨c,uc,h⟩:=h;simp only at h;have hn:=h.n6;have hl6:=h.l6;have hlb:=h.lb;have hlt:=h.lt;have same:WIw k (((st,held),(cls,(busy,(asks,(tells,best))))):A5):=⟨c,uc,h⟩;simp only [A1f,A9O,P7,bO];rw [w64 (n:=(tells.length:Int)-1) (by omega) (by omega)];by_cases hr:0<=j/\j<=(tells.length:Int)-1
 ·obtain ⟨j,rfl⟩:∃ q:Nat,j=(q:Int):=⟨j.toNat,by omega⟩;have hjl:j<tells.length:=by omega
  obtain ⟨a,ha⟩:∃ x,tells[j]? = some x:=⟨_,List.getElem?_eq_getElem hjl⟩;obtain ⟨i,cl,hcl,hai,hfit,htold⟩:=h.tell a (List.mem_of_getElem? ha);have hg:=h.cl i cl hcl;have hic:i<cls.length:=(List.getElem?_eq_some_iff.1 hcl).1;obtain ⟨b,hb⟩:∃ x,busy[i]? = some x:=⟨_,List.getElem?_eq_getElem (show i<busy.length by omega)⟩;obtain ⟨bt0,hbt⟩:∃ x,best[i]? = some x:=⟨_,List.getElem?_eq_getElem (show i<best.length by omega)⟩;have hct:∀ i':Nat,cH i' tells=cH i' (rm tells j)+if (i':Int)=a.1 then 1 else 0:=fun i'=>by
   have:=D8e (fun x:C1=>decide (x.1=(i':Int))) ha;unfold cH;rw [this];by_cases e:(i':Int)=a.1
   ·rw [if_pos e,if_pos (by simp [e])]
   ·rw [if_neg e,if_neg (by simp;omega)]
  have hpend:=h.cnt i b hb;have hcti:=hct i;rw [if_pos hai.symm] at hcti;have hbt':b=true:=by
   cases b with
   | true=>rfl
   | false=>simp only [Bool.false_eq_true,if_false] at hpend;omega
  subst hbt';simp only [if_true] at hpend;have hz:cW i asks=0/\cH i held=0/\cH i (rm tells j)=0:=by omega
  obtain ⟨hearG,he1,he2,he5,hov⟩:=E4q hg hfit;have hrm:([]++(tells.take j).drop 0)++(tells.take tells.length).drop ((j:Int)+1).toNat=rm tells j:=by
   unfold rm;rw [show ((j:Int)+1).toNat=j+1 by omega,List.drop_zero,List.take_length];rfl
  obtain ⟨who,resp⟩:=a;simp only at hai hfit htold hearG he1 he2 he5 hov ha hct;subst hai;rw [A0 hr,A28 A9 ha];simp only [Bool.not_true,cond_false];rw [w64 (n:=(j:Int)+1) (by omega) (by omega),A0 (show (0:Int)<=(j:Int) by omega),A0 (show (j:Int)<(tells.length:Int) by omega),A0 (show (j:Int)<=(tells.length:Int) by omega),
   A0 (show (0:Int)<=(j:Int)+1 by omega),A0 (show (j:Int)+1<=(tells.length:Int) by omega),A0 (by simp;omega),A0 (by simp;omega),A0 (by simp;omega),A0 (by simp;omega),
   A0 (show (0:Int)<=(i:Int) by omega),A0 (show (i:Int)<(busy.length:Int) by omega),A0 (show (i:Int)<(cls.length:Int) by omega),A28 .bool hb,A28 C7h hcl,C3F,D15,hov]
  simp only [cond_true,Bool.not_false,bO,Int.toNat_natCast];rw [hrm];rw [A0 (show (i:Int)<(best.length:Int) by omega),A28 (.int .i64) hbt];have main:∀ best',best'.length=cls.length->(∀ (i':Nat) (b':Int),best'[i']? = some b'->(i'≠i/\best[i']? = some b')\/(i' = i/\(b' = bt0\/b' = resp.2)))->
    WIw k (((st,held),(cls.set i (hear cl resp),(busy.set i false,(asks,(rm tells j,best'))))):A5):=fun best' hbl hbb=>by
   refine wiw (c:=c) (uc:=uc) ?_;have hsetn:∀ (i':Nat) (x:A8),(cls.set i (hear cl resp))[i']? = some x->(i' = i/\x=hear cl resp)\/(i'≠i/\cls[i']? = some x):=fun i' x hx=>C1B hx
   have hget:∀ (i':Nat) (x:A8),i'≠i->cls[i']? = some x->(cls.set i (hear cl resp))[i']? = some x:=fun i' x hne hx=>by rw [List.getElem?_set_ne (fun e=>hne e.symm)];exact hx
   have hgeti:(cls.set i (hear cl resp))[i]? = some (hear cl resp):=by rw [List.getElem?_set_self hic]
   refine {h with n6:=by simp only [List.length_set];exact h.n6,lb:=by simp only [List.length_set];exact h.lb,lt:=by simp only [List.length_set];exact hbl,dist:=?_,cl:=?_,cnt:=?_,dn:=?_,ask:=?_,hld:=?_,tell:=?_,bst:=?_,ends:=?_,oku:=?_,l6:=?_}
   ·intro p q x y hx hy e;rcases hsetn p x hx with ⟨e1,rfl⟩ | ⟨n1,hx1⟩<;>rcases hsetn q y hy with ⟨e2,rfl⟩ | ⟨n2,hy1⟩
    ·exact e1.trans e2.symm
    ·exact e1.trans (h.dist _ _ cl y hcl hy1 (by rw [<- he1];exact e))
    ·exact (h.dist _ _ x cl hx1 hcl (by rw [<- he1];exact e)).trans e2.symm
    ·exact h.dist _ _ x y hx1 hy1 e
   ·intro p x hx;rcases hsetn p x hx with ⟨_,rfl⟩ | ⟨_,hx⟩
    ·exact hearG
    ·exact h.cl p x hx
   ·intro p b' hb';rcases C1B hb' with ⟨rfl,rfl⟩ | ⟨hne,hb'⟩
    ·simp only [Bool.false_eq_true,if_false];omega
    ·have h1:=h.cnt p b' hb';have h2:=hct p;rw [if_neg (by omega)] at h2;omega
   ·intro p x hx h5;rcases hsetn p x hx with ⟨rfl,rfl⟩ | ⟨hne,hx⟩
    ·rw [List.getElem?_set_self (show p<busy.length by omega)]
    ·rw [List.getElem?_set_ne (fun e=>hne e.symm)];exact h.dn p x hx h5
   ·intro x hx;obtain ⟨i',a',h1,h2,h3⟩:=h.ask x hx;have hne:i'≠i:=fun e=>by
     subst e;exact C3Q hz.1 hx (decide_eq_true h2)
    exact ⟨i',a',hget i' a' hne h1,h2,h3⟩
   ·intro x hx;obtain ⟨i',a',h1,h2,h3⟩:=h.hld x hx;have hne:i'≠i:=fun e=>by
     subst e;exact C3Q hz.2.1 hx (decide_eq_true h2)
    exact ⟨i',a',hget i' a' hne h1,h2,h3⟩
   ·intro x hx;obtain ⟨i',a',h1,h2,h3⟩:=h.tell x (D1T hx);have hne:i'≠i:=fun e=>by
     subst e;exact C3Q hz.2.2 hx (decide_eq_true h2)
    exact ⟨i',a',hget i' a' hne h1,h2,h3⟩
   ·intro p x b' hx hb';rcases hsetn p x hx with ⟨rfl,rfl⟩ | ⟨hne,hx⟩
    ·rw [he1];rcases hbb p b' hb' with ⟨hne,_⟩ | ⟨_,rfl | rfl⟩
     ·exact absurd rfl hne
     ·exact h.bst p cl _ hcl hbt
     ·exact htold.1
    ·rcases hbb p b' hb' with ⟨_,hb'⟩ | ⟨e,_⟩
     ·exact h.bst p x b' hx hb'
     ·exact absurd e hne
   ·intro p x hx h5;rcases hsetn p x hx with ⟨rfl,rfl⟩ | ⟨hne,hx⟩
    ·obtain ⟨g1,g2⟩:=he5 h5;rw [he1];exact htold.2 g1 g2
    ·exact h.ends p x hx h5
   ·intro u hu;obtain ⟨i',a',h1,h2,h3⟩:=h.oku u hu;by_cases e:i' = i
    ·subst e;rw [hcl] at h1;injection h1 with h1;subst h1
     exact ⟨i',_,hgeti,by rw [he1];exact h2,by rw [he2];exact h3⟩
    ·exact ⟨i',a',hget i' a' e h1,h2,h3⟩
   ·have:=D6O hjl;omega
  by_cases hgt:resp.2>bt0
  ·rw [A0 hgt];simp only [cond_true];refine ⟨true,_,rfl,main (best.set i resp.2) (by rw [List.length_set];exact hlt) fun i' b' hb'=>?_⟩;rcases C1B hb' with ⟨e,rfl⟩ | ⟨hne,hb'⟩
   ·exact .inr ⟨e,.inr rfl⟩
   ·exact .inl ⟨hne,hb'⟩
  ·rw [A4 hgt];simp only [cond_true,cond_false];refine ⟨true,_,rfl,main best hlt fun i' b' hb'=>?_⟩;by_cases e:i' = i
   ·subst e;rw [hbt] at hb';injection hb' with hb'
    exact .inr ⟨rfl,.inl hb'.symm⟩
   ·exact .inl ⟨e,hb'⟩
 ·rw [A4 hr];exact ⟨false,_,rfl,same⟩
theorem C1D(l:List C1)(i:Int)(hl:l.length<=1048576):A54 l i=some (l.filter (fun x=>!decide (x.1=i)),()):=by
 simp only [A54,B3u];refine E0 (A5q l i) (fun j=>((j:Int),(l.take j).filter (fun x=>!decide (x.1=i)),())) l.length (l.filter (fun x=>!decide (x.1=i)),()) (fun j hj=>?_) ?_
 ·have h1:((j:Int)<(l.length:Int)):=by omega
  have h2:(0:Int)<=(j:Int):=by omega
  have hlen:=List.length_filter_le (fun x:C1=>!decide (x.1=i)) (l.take j);rw [List.length_take] at hlen;simp only [A5q,A0 h1,A0 h2,cond_true];rw [A28 A9 (List.getElem?_eq_getElem hj),w64 (by omega) (by omega),List.take_succ_eq_append_getElem hj,List.filter_append];by_cases e:l[j].1=i
  ·rw [A0 e];simp only [Bool.not_true,cond_false];have:([l[j]].filter fun x=>!decide (x.1=i)) = []:=by simp [e]
   rw [this,List.append_nil];rfl
  ·rw [A4 e];simp only [Bool.not_false,cond_true];rw [A0 (by simp;omega),A0 (by simp;omega)];have:([l[j]].filter fun x=>!decide (x.1=i)) = [l[j]]:=by simp [e]
   rw [this];rfl
 ·simp only [A5q,List.take_length];rw [A4 (by omega)];rfl
theorem D1U(w:A5)(i:Int)(hl:w.2.2.2.1.length<=1048576):C3 (A43 w i) (0,[],())=some (w.2.2.2.1.filter (fun x=>!decide (x.1=i)),()):=by
 refine E0 (A43 w i) (fun j=>((j:Int),(w.2.2.2.1.take j).filter (fun x=>!decide (x.1=i)),())) w.2.2.2.1.length (w.2.2.2.1.filter (fun x=>!decide (x.1=i)),()) (fun j hj=>?_) ?_
 ·have h1:((j:Int)<(w.2.2.2.1.length:Int)):=by omega
  have h2:(0:Int)<=(j:Int):=by omega
  have hlen:=List.length_filter_le (fun x:M6=>!decide (x.1=i)) (w.2.2.2.1.take j);rw [List.length_take] at hlen;simp only [A43,A0 h1,A0 h2,cond_true];rw [A28 D6N (List.getElem?_eq_getElem hj),w64 (by omega) (by omega),List.take_succ_eq_append_getElem hj,List.filter_append];by_cases e:w.2.2.2.1[j].1=i
  ·rw [A0 e];simp only [Bool.not_true,cond_false];have:([w.2.2.2.1[j]].filter fun x=>!decide (x.1=i)) = []:=by simp [e]
   rw [this,List.append_nil];rfl
  ·rw [A4 e];simp only [Bool.not_false,cond_true];rw [A0 (by simp;omega),A0 (by simp;omega)];have:([w.2.2.2.1[j]].filter fun x=>!decide (x.1=i)) = [w.2.2.2.1[j]]:=by simp [e]
   rw [this];rfl
 ·simp only [A43,List.take_length];rw [A4 (by omega)];rfl
theorem B0K{α:Type}{f:α->Int}{i j:Int}(hne:j≠i)(l:List α):(l.filter fun x=>!decide (f x=i)).countP (fun x=>decide (f x=j))=l.countP (fun x=>decide (f x=j)):=by
 rw [List.countP_filter];refine List.countP_congr fun x _=>?_
 simp only [Bool.and_eq_true,decide_eq_true_eq,Bool.not_eq_true',decide_eq_false_iff_not];omega
theorem B0L{α:Type}{f:α->Int}{i:Int}(l:List α):(l.filter fun x=>!decide (f x=i)).countP (fun x=>decide (f x=i))=0:=by
 rw [List.countP_eq_zero];intro x hx;have:=(List.mem_filter.1 hx).2;simpa using this
theorem F06(k:Nat)(w:A5)(h:WIw k w)(i:Int)(hi:i<9223372036854775807):∃ b w',A2c w i=some (b,w',())/\WIw k w':=by
 obtain ⟨⟨st,held⟩,cls,busy,asks,tells,best⟩:=w;obtain ⟨c,uc,h⟩:=h;simp only at h;have hn:=h.n6;have hl6:=h.l6;have hla:=h.la;have hlh:=h.lh;have hlb:=h.lb;have hlt:=h.lt;have same:WIw k (((st,held),(cls,(busy,(asks,(tells,best))))):A5):=⟨c,uc,h⟩;simp only [A2c,B14,P7,bO];rw [w64 (n:=(cls.length:Int)-1) (by omega) (by omega)];by_cases hr:0<=i/\i<=(cls.length:Int)-1
 ·obtain ⟨i,rfl⟩:∃ q:Nat,i=(q:Int):=⟨i.toNat,by omega⟩;have hic:i<cls.length:=by omega
  obtain ⟨cl,hcl⟩:∃ x,cls[i]? = some x:=⟨_,List.getElem?_eq_getElem hic⟩;have hg:=h.cl i cl hcl;obtain ⟨_,h400,_⟩:=A2w hg;obtain ⟨cutG,he1,he2,he5⟩:=B27 hg;rw [A0 hr,D1U (((st,held),(cls,(busy,(asks,(tells,best))))):A5) (i:Int) (by show asks.length<=_;omega),C1D tells _ (by omega),C1D held _ (by omega),A0 (show (0:Int)<=(i:Int) by omega),A0 (show (i:Int)<(cls.length:Int) by omega),A0 (show (i:Int)<(busy.length:Int) by omega),A28 C7h hcl,B3H cl (C1C hg) (by omega)];simp only [Bool.not_true,cond_false,cond_true,bO,Int.toNat_natCast];refine ⟨true,_,rfl,wiw (c:=c) (uc:=uc) ?_⟩;have hsetn:∀ (i':Nat) (x:A8),(cls.set i (H4 cl))[i']? = some x->(i' = i/\x=H4 cl)\/(i'≠i/\cls[i']? = some x):=fun i' x hx=>C1B hx
  have hget:∀ (i':Nat) (x:A8),i'≠i->cls[i']? = some x->(cls.set i (H4 cl))[i']? = some x:=fun i' x hne hx=>by rw [List.getElem?_set_ne (fun e=>hne e.symm)];exact hx
  have hgeti:(cls.set i (H4 cl))[i]? = some (H4 cl):=by rw [List.getElem?_set_self hic]
  have hni:∀ {x:Int} {i':Nat},(!decide (x=(i:Int)))=true->x=(i':Int)->i'≠i:=fun hx e hh=>by
   subst hh;rw [e] at hx;simp at hx
  refine {h with n6:=by simp only [List.length_set];exact h.n6,lb:=by simp only [List.length_set];exact h.lb,lt:=by simp only [List.length_set];exact h.lt,dist:=?_,cl:=?_,cnt:=?_,dn:=?_,ask:=?_,hld:=?_,tell:=?_,bst:=?_,ends:=?_,oku:=?_,la:=Nat.le_trans (List.length_filter_le _ _) hla,l6:=Nat.le_trans (List.length_filter_le _ _) hl6,lh:=Nat.le_trans (List.length_filter_le _ _) hlh}
  ·intro p q x y hx hy e;rcases hsetn p x hx with ⟨e1,rfl⟩ | ⟨n1,hx1⟩<;>rcases hsetn q y hy with ⟨e2,rfl⟩ | ⟨n2,hy1⟩
   ·exact e1.trans e2.symm
   ·exact e1.trans (h.dist _ _ cl y hcl hy1 (by rw [<- he1];exact e))
   ·exact (h.dist _ _ x cl hx1 hcl (by rw [<- he1];exact e)).trans e2.symm
   ·exact h.dist _ _ x y hx1 hy1 e
  ·intro p x hx;rcases hsetn p x hx with ⟨_,rfl⟩ | ⟨_,hx⟩
   ·exact cutG
   ·exact h.cl p x hx
  ·intro p b' hb';rcases C1B hb' with ⟨rfl,rfl⟩ | ⟨hne,hb'⟩
   ·simp only [Bool.false_eq_true,if_false];have e1:cW p (asks.filter fun x=>!decide (x.1=(p:Int)))=0:=B0L (f:=fun x:M6=>x.1) asks;have e2:cH p (held.filter fun x=>!decide (x.1=(p:Int)))=0:=B0L (f:=fun x:C1=>x.1) held;have e3:cH p (tells.filter fun x=>!decide (x.1=(p:Int)))=0:=B0L (f:=fun x:C1=>x.1) tells;rw [e1,e2,e3]
   ·have h1:=h.cnt p b' hb';have hne':(p:Int)≠(i:Int):=by omega
    have e1:cW p (asks.filter fun x=>!decide (x.1=(i:Int)))=cW p asks:=B0K (f:=fun x:M6=>x.1) hne' asks;have e2:cH p (held.filter fun x=>!decide (x.1=(i:Int)))=cH p held:=B0K (f:=fun x:C1=>x.1) hne' held;have e3:cH p (tells.filter fun x=>!decide (x.1=(i:Int)))=cH p tells:=B0K (f:=fun x:C1=>x.1) hne' tells;rw [e1,e2,e3];exact h1
  ·intro p x hx h5;rcases hsetn p x hx with ⟨rfl,rfl⟩ | ⟨hne,hx⟩
   ·rw [List.getElem?_set_self (show p<busy.length by omega)]
   ·rw [List.getElem?_set_ne (fun e=>hne e.symm)];exact h.dn p x hx h5
  ·intro x hx;obtain ⟨hx,hxi⟩:=List.mem_filter.1 hx;obtain ⟨i',a',h1,h2,h3⟩:=h.ask x hx;exact ⟨i',a',hget i' a' (hni hxi h2) h1,h2,h3⟩
  ·intro x hx;obtain ⟨hx,hxi⟩:=List.mem_filter.1 hx;obtain ⟨i',a',h1,h2,h3⟩:=h.hld x hx;exact ⟨i',a',hget i' a' (hni hxi h2) h1,h2,h3⟩
  ·intro x hx;obtain ⟨hx,hxi⟩:=List.mem_filter.1 hx;obtain ⟨i',a',h1,h2,h3⟩:=h.tell x hx;exact ⟨i',a',hget i' a' (hni hxi h2) h1,h2,h3⟩
  ·intro p x b' hx hb';rcases hsetn p x hx with ⟨rfl,rfl⟩ | ⟨hne,hx⟩
   ·rw [he1];exact h.bst p cl b' hcl hb'
   ·exact h.bst p x b' hx hb'
  ·intro p x hx h5;rcases hsetn p x hx with ⟨rfl,rfl⟩ | ⟨hne,hx⟩
   ·rw [he1];exact h.ends p cl hcl (he5 h5)
   ·exact h.ends p x hx h5
  ·intro u hu;obtain ⟨i',a',h1,h2,h3⟩:=h.oku u hu;by_cases e:i' = i
   ·subst e;rw [hcl] at h1;injection h1 with h1;subst h1
    exact ⟨i',_,hgeti,by rw [he1];exact h2,by rw [he2];exact h3⟩
   ·exact ⟨i',a',hget i' a' e h1,h2,h3⟩
 ·rw [A4 hr];exact ⟨false,_,rfl,same⟩
theorem E7E(k:Nat)(hk:k<=9999)(w:A5)(h:WIw k w)(ke:List Bool):∃ b w',A11 w ke=some (b,w',())/\WIw (k+1) w':=by
 obtain ⟨⟨st,held⟩,cls,busy,asks,tells,best⟩:=w;obtain ⟨c,uc,h⟩:=h;simp only at h;have hn:=h.n6;have hlb:=h.lb;have hlt:=h.lt;have hep:=h.ep;obtain ⟨m,us,g1,g2,g3,g4,g5,g6,g7⟩:=C6G h.dur ke (by omega);have hfl:=B4c st.1 ke h.dur.g.dk;have hop:C5 (B4b st.1 ke)=_:=C18 g7;simp only [A11,A7L,hfl,hop,bO,Bool.not_true,cond_false];have key:=E0 (A02 A2a) (fun j=>((j:Int),(A0B (U1 st.1.1 st.1.2 ke) us).2.1,(A0B (U1 st.1.1 st.1.2 ke) us).2.2.1,([]:List M6),([]:List C1),A4B (cls.map H4) cls j,A4B (List.replicate cls.length false) busy j,best,(A0B (U1 st.1.1 st.1.2 ke) us).1.1,(A0B (U1 st.1.1 st.1.2 ke) us).1.2,(A0B (U1 st.1.1 st.1.2 ke) us).2.2.2,())) cls.length
  (true,(((((A0B (U1 st.1.1 st.1.2 ke) us).1.1,(A0B (U1 st.1.1 st.1.2 ke) us).1.2),((A0B (U1 st.1.1 st.1.2 ke) us).2.1,((A0B (U1 st.1.1 st.1.2 ke) us).2.2.1,(A0B (U1 st.1.1 st.1.2 ke) us).2.2.2))),[]),(cls.map H4,(List.replicate cls.length false,([],([],best))))),()) (fun j hj=>?_) ?_
 ·refine ⟨true,_,key,wiw (c:=m) (uc:=us) ?_⟩;have hle:C6K us st.2.2.2:=by
   have h1:=h.dur.g.up;rw [<- List.take_length (l:=B7 st.1.1)] at h1;exact C6L g2 g4 h1 h.nd
  have hle2:C6K uc us:=C6L g1 h.fuc g4 h.nd;have hsc:B7 (A0B (U1 st.1.1 st.1.2 ke) us).1.1=(B7 st.1.1).take m:=g3;have hlen:((B7 st.1.1).take m).length=m:=by rw [List.length_take];omega
  have hdur:=C3O g7;rw [g3,hlen] at hdur;have hmap:∀ (i:Nat) (x:A8),(cls.map H4)[i]? = some x->∃ a,cls[i]? = some a/\x=H4 a:=fun i x hx=>by
   rw [List.getElem?_map] at hx;cases ha:cls[i]? with
   | none=>rw [ha] at hx;cases hx
   | some a=>rw [ha] at hx;injection hx with hx;exact ⟨a,rfl,hx.symm⟩
  exact {
   dur:=hdur
   ep:=by show A48 (U1 st.1.1 st.1.2 ke)+1<=((k+1:Nat):Int);omega
   nd:=fun r hr=>by rw [hsc] at hr;exact h.nd r (List.mem_of_mem_take hr)
   fuc:=by rw [hsc,List.take_take,Nat.min_self];exact g4
   n6:=by rw [List.length_map];exact h.n6
   lb:=by rw [List.length_map,List.length_replicate]
   lt:=by rw [List.length_map];exact h.lt
   dist:=fun p q x y hx hy e=>by
    obtain ⟨a,ha,rfl⟩:=hmap p x hx;obtain ⟨b,hb,rfl⟩:=hmap q y hy;rw [(B27 (h.cl p a ha)).2.1,(B27 (h.cl q b hb)).2.1] at e;exact h.dist p q a b ha hb e
   cl:=fun p x hx=>by
    obtain ⟨a,ha,rfl⟩:=hmap p x hx;exact (B27 (h.cl p a ha)).1
   cnt:=fun p b hb=>by
    have:=(List.mem_replicate.1 (List.mem_of_getElem? hb)).2;subst this;rfl
   dn:=fun p x hx h5=>by
    obtain ⟨a,ha,rfl⟩:=hmap p x hx;have hp:=(List.getElem?_eq_some_iff.1 ha).1;rw [List.getElem?_replicate,if_pos hp]
   ask:=fun x hx=>by cases hx
   hld:=fun x hx=>by cases hx
   tell:=fun x hx=>by cases hx
   bst:=fun p x b hx hb=>by
    obtain ⟨a,ha,rfl⟩:=hmap p x hx;rw [(B27 (h.cl p a ha)).2.1];rcases h.bst p a b ha hb with h1 | ⟨u,hu,e,hl⟩
    ·exact .inl h1
    ·obtain ⟨v,hv,hlu⟩:=hle2 u hu;have:=hlu.len;exact .inr ⟨v,hv,hlu.id.symm.trans e,by omega⟩
   ends:=fun p x hx h5=>by
    obtain ⟨a,ha,rfl⟩:=hmap p x hx;obtain ⟨_,e1,_,e5⟩:=B27 (h.cl p a ha);rw [e1];obtain ⟨u,hu,e,hd⟩:=h.ends p a ha (e5 h5);obtain ⟨v,hv,hlu⟩:=hle2 u hu;exact ⟨v,hv,hlu.id.symm.trans e,(hlu.fin hd).1⟩
   oku:=fun u hu=>by
    obtain ⟨v,hv,hlu⟩:=hle u hu;obtain ⟨i,a,ha,e,hok⟩:=h.oku v hv;obtain ⟨_,e1,e2,_⟩:=B27 (h.cl i a ha);exact ⟨i,H4 a,by rw [List.getElem?_map,ha];rfl,by rw [e1];exact hlu.id.trans e,by rw [e2];exact F04 hlu hok⟩
   la:=Nat.zero_le _
   l6:=Nat.zero_le _
   lh:=Nat.zero_le _}
 ·have hlm:(cls.map H4).length=cls.length:=List.length_map _;have hlr:(List.replicate cls.length false).length=busy.length:=by rw [List.length_replicate];omega
  have l1:=B23 (l:=cls.map H4) (x:=cls) hlm j;have l2:=B23 (l:=List.replicate cls.length false) (x:=busy) hlr j;have gc:=B9c (l:=cls.map H4) (x:=cls) hlm hj;rw [List.getElem?_eq_getElem hj] at gc;have hg:=h.cl j _ (List.getElem?_eq_getElem hj);obtain ⟨_,h400,_⟩:=A2w hg;simp only [A02,l1,l2];rw [A0 (show (j:Int)<(cls.length:Int) by omega),A0 (show (0:Int)<=(j:Int) by omega),A28 C7h gc,B3H _ (C1C hg) (by omega),A0 (show (j:Int)<(busy.length:Int) by omega),w64 (by omega) (by omega)];simp only [cond_true,bO,Int.toNat_natCast];have e1:=A9s (l:=cls.map H4) (x:=cls) hlm (i:=j) (by omega);have e2:=A9s (l:=List.replicate cls.length false) (x:=busy) hlr (i:=j) (by rw [List.length_replicate];exact hj);rw [List.getElem_map] at e1;rw [List.getElem_replicate] at e2;rw [e1,e2];rfl
 ·have e1:A4B (cls.map H4) cls cls.length=cls.map H4:=by unfold A4B;rw [List.drop_length,List.append_nil,List.take_of_length_le (by simp)]
  have e2:A4B (List.replicate cls.length false) busy cls.length=List.replicate cls.length false:=by unfold A4B;rw [<- hlb,List.drop_length,List.append_nil,List.take_of_length_le (by simp)]
  simp only [A02,e1,e2,List.length_map];rw [A4 (by omega)];rfl
theorem C1E{k:Nat}{w:A5}(h:WIw k w):WIw (k+1) w:=by
 obtain ⟨c,uc,h⟩:=h;exact ⟨c,uc,{h with ep:=by have:=h.ep;omega}⟩
theorem F07(k:Nat)(hk:k<=9999)(w:A5)(h:WIw k w)(e:V2)(he:e.2.1<9223372036854775807):∃ b w',A0q w e=some (b,w',())/\WIw (k+1) w':=by
 simp only [A0q,B33];by_cases h1:e.1=1
 ·obtain ⟨b,w',q,hw⟩:=E8k k w h e.2.1 he;rw [A0 h1,q];exact ⟨b,w',rfl,C1E hw⟩
 rw [A4 h1];by_cases h2:e.1=2
 ·obtain ⟨b,w',q,hw⟩:=E7D k w h e.2.1 he;rw [A0 h2,q];exact ⟨b,w',rfl,C1E hw⟩
 rw [A4 h2];by_cases h3:e.1=3
 ·obtain ⟨b,w',q,hw⟩:=E8l k w h;rw [A0 h3,q];exact ⟨b,w',rfl,C1E hw⟩
 rw [A4 h3];by_cases h4:e.1=4
 ·obtain ⟨b,w',q,hw⟩:=E8m k w h e.2.1 he;rw [A0 h4,q];exact ⟨b,w',rfl,C1E hw⟩
 rw [A4 h4];by_cases h5:e.1=5
 ·obtain ⟨b,w',q,hw⟩:=F06 k w h e.2.1 he;rw [A0 h5,q];exact ⟨b,w',rfl,C1E hw⟩
 rw [A4 h5];by_cases h6:e.1=6
 ·obtain ⟨b,w',q,hw⟩:=E7E k hk w h e.2.2;rw [A0 h6,q];exact ⟨b,w',rfl,hw⟩
 rw [A4 h6];exact ⟨false,w,rfl,C1E h⟩
def C6M(id:X0)(f:List Int):T8:=if G6 (id,f,1,0) then (id,f,1,0) else (⟨#[]⟩,[],0,0)
theorem D1V(id:X0)(f:List Int)(h:id.size<=maxLen)(h2:f.length<=140737488355328):A1d id f=some (C6M id f,()):=by
 simp only [A1d,B3v];rw [A0 (by simp;omega),A0 (by simp;omega)];simp only [cond_true,List.nil_append];rw [A1k _ h];simp only [A3,C6M];cases G6 (id,f,1,0)<;>simp
theorem F08{c:A8}{r:A0t}{d:List Int}(hc:ClG c)(hq:J6 c=(r,d,true,())):A26 r=true/\r.2.1.size<=1048576/\d.length<=400:=by
 obtain ⟨hid,h400,_,_,o0,o1⟩:=A2w hc;have hcs:=C1C hc;have hx:A6o c.2.1 ^^^ 4294967295<2 ^ 32:=Nat.xor_lt_two_pow (B16 hc.byt) (by omega);have h8:c.1.size<=8:=by simp only [idB,Bool.and_eq_true,decide_eq_true_eq] at hid;omega
 have hl:=B9F c;have key:∀ a b:Int,(1<=a/\a<=6)->(0<=b/\b<=B6a a)->A26 (a,(c.1,b))=true:=fun a b h1 h2=>by
  simp only [A26];rw [A0 h1,A0 h2,hid];rfl
 have e:(J6 c).2.2.1=true->A26 (J6 c).1=true/\(J6 c).1.2.1.size<=1048576:=by
  unfold J6 C7W
  repeat' split
  all_goals first | exact fun h=>⟨key _ _ (by omega) (by simp [B6a]<;>omega),by show c.1.size<=_;omega⟩ | (intro h;cases h)
 rw [hq] at e hl;obtain ⟨e1,e2⟩:=e rfl;exact ⟨e1,e2,by have:d.length<=c.2.1.length:=hl;omega⟩
theorem E1N{α:Type}{l:List α}{i:Nat}{x:α}(h:l[i]? = some x):i<l.length:=(List.getElem?_eq_some_iff.1 h).1
theorem A4C(c:B6)(n:Int)(h:Cur c)(hn:n<9223372036854775808):∃ r c',C0 c n=some (r,c',())/\Cur c'/\0<=r/\(r<n\/r=0):=by
 by_cases h0:n<=0
 ·refine ⟨0,c,?_,h,Int.le_refl _,.inr rfl⟩;simp only [C0,B2p];rw [A0 h0];rfl
 ·obtain ⟨r,c',e,h1,h2,h3⟩:=G8 c n h (by omega);exact ⟨r,c',e,h1,h2,.inl h3⟩
theorem D8f(c:B6)(w:A5)(h:Cur c)(h1:w.2.1.length<=1000)(h2:w.2.2.2.1.length<=1000)(h3:w.2.2.2.2.1.length<=1000) :
  ∃ e c',N2 c w=some (e,c',w,())/\Cur c'/\e.2.1<9223372036854775807:=by
 obtain ⟨k,c1,q1,hc1,k0,k1⟩:=G8 c 12 h (by omega);simp only [N2,A21,q1,bO];obtain ⟨b0,m0⟩:∃ b,(bif decide (k=0) then (some (decide (k=0),()):Option (Bool×Unit)) else bif decide (k=1) then some (decide (k=1),()) else some (decide (k=2),()))=some (b,()):=by
  cases decide (k=0)<;>cases decide (k=1)<;>exact ⟨_,rfl⟩
 rw [m0];simp only [bO];cases b0 with
 | true=>
  obtain ⟨r,c2,q2,hc2,r0,r1⟩:=A4C c1 (w.2.1.length:Int) hc1 (by omega);simp only [cond_true,q2,bO,B8];exact ⟨_,_,rfl,hc2,by simp only;omega⟩
 | false=>
 simp only [cond_false];obtain ⟨b1,m1⟩:∃ b,(bif decide (k=3) then (some (decide (k=3),()):Option (Bool×Unit)) else bif decide (k=4) then some (decide (k=4),()) else some (decide (k=5),()))=some (b,()):=by
  cases decide (k=3)<;>cases decide (k=4)<;>exact ⟨_,rfl⟩
 rw [m1];simp only [bO];cases b1 with
 | true=>
  obtain ⟨r,c2,q2,hc2,r0,r1⟩:=A4C c1 (IntKind.i64.wrap ((w.2.2.2.1.length:Int)+1)) hc1 (by rw [w64 (by omega) (by omega)];omega);rw [w64 (by omega) (by omega)] at r1;simp only [cond_true,q2,bO,B8];exact ⟨_,_,rfl,hc2,by simp only;omega⟩
 | false=>
 simp only [cond_false];obtain ⟨b2,m2⟩:∃ b,(bif decide (k=6) then (some (decide (k=6),()):Option (Bool×Unit)) else some (decide (k=7),()))=some (b,()):=by
  cases decide (k=6)<;>exact ⟨_,rfl⟩
 rw [m2];simp only [bO];cases b2 with
 | true=>
  simp only [cond_true,B8];exact ⟨_,_,rfl,hc1,by simp only;omega⟩
 | false=>
 simp only [cond_false];obtain ⟨b3,m3⟩:∃ b,(bif decide (k=8) then (some (decide (k=8),()):Option (Bool×Unit)) else some (decide (k=9),()))=some (b,()):=by
  cases decide (k=8)<;>exact ⟨_,rfl⟩
 rw [m3];simp only [bO];cases b3 with
 | true=>
  obtain ⟨r,c2,q2,hc2,r0,r1⟩:=A4C c1 (IntKind.i64.wrap ((w.2.2.2.2.1.length:Int)+1)) hc1 (by rw [w64 (by omega) (by omega)];omega);rw [w64 (by omega) (by omega)] at r1;simp only [cond_true,q2,bO,B8];exact ⟨_,_,rfl,hc2,by simp only;omega⟩
 | false=>
 simp only [cond_false];cases decide (k=10) with
 | true=>
  obtain ⟨r,c2,q2,hc2,r0,r1⟩:=A4C c1 (w.2.1.length:Int) hc1 (by omega);simp only [cond_true,q2,bO,B8];exact ⟨_,_,rfl,hc2,by simp only;omega⟩
 | false=>
 simp only [cond_false,B8];obtain ⟨z,e,hz⟩:=P0 (A1F I8 w) (fun l=>(20-l.1).toNat)
  (fun l=>0<=l.1/\l.1<=20/\l.2.1=6/\l.2.2.1=0/\Cur (l.2.2.2.1,(l.2.2.2.2.1,l.2.2.2.2.2.1))/\(l.2.2.2.2.2.2.1.length:Int)=l.1) (fun z=>z.2.2.1=w/\Cur z.2.1/\z.1.2.1=0) (fun l hl=>by
   obtain ⟨g0,g1,g2,g3,g4,g5⟩:=hl;simp only [A1F];by_cases hi:l.1<20
   ·obtain ⟨b,c',q,hc'⟩:=A4g _ 2 g4 (by omega);rw [A0 hi,q];simp only [cond_true,bO];rw [A0 (by simp;omega),A0 (by simp;omega),w64 (by omega) (by omega)];exact .inl ⟨_,rfl,⟨by simp only;omega,by simp only;omega,g2,g3,hc',by simp;omega⟩,by simp only;omega⟩
   ·rw [A4 hi];exact .inr ⟨_,rfl,rfl,g4,g3⟩) (0,6,0,c1.1,c1.2.1,c1.2.2,[],()) ⟨by simp,by simp,rfl,rfl,hc1,rfl⟩
 obtain ⟨ev,c',w',u⟩:=z;obtain ⟨z1,z2,z3⟩:=hz;simp only at z1 z2 z3;subst z1;exact ⟨ev,c',e,z2,by omega⟩
def C6N(n:Int)(cls:List A8):A5:=(P8 n,cls,List.replicate cls.length false,[],[],List.replicate cls.length (-1))
def F09:A5:=((((([],[]),(0,(0,[]))),[]),([],([],([],([],[]))))):A5)
theorem D3k(n:Int)(cls:List A8)(hl:cls.length<=1000)(hc:∀ c∈cls,c.1.size<=maxLen/\c.2.1.length<=140737488355328):∃ w,Q3 n cls=some (w,())/\(w=C6N n cls\/w=F09):=by
 have hd:=D8L n;have ks:C3 (J9 O2 cls) (0,0,0,(E3 n).1,(E3 n).2,[],[],[],[],[],())=some (0,0,(E3 n).1,(E3 n).2,[],[],cls,List.replicate cls.length false,List.replicate cls.length (-1),()):=by
  have key:=E0 (J9 O2 cls) (fun i=>((i:Int),0,0,(E3 n).1,(E3 n).2,[],[],cls.take i,List.replicate i false,List.replicate i (-1),())) cls.length (0,0,(E3 n).1,(E3 n).2,[],[],cls,List.replicate cls.length false,List.replicate cls.length (-1),()) (fun i hi=>?_) ?_
  ·simpa using key
  ·have g1:(i:Int)<(cls.length:Int):=by omega
   have g2:(0:Int)<=(i:Int):=by omega
   simp only [J9,A0 g1,A0 g2,cond_true];rw [C7 (k:=B3) (xs:=cls) hi,C3G _ (hc _ (List.getElem_mem hi)).2];simp only [A3];rw [A0 (by simp;omega),A0 (by simp;omega),A0 (by simp;omega),A0 (by simp;omega),A0 (by simp;omega),A0 (by simp;omega),w64 (by omega) (by omega),List.take_succ_eq_append_getElem hi,List.replicate_succ',List.replicate_succ'];rfl
  ·simp [J9]
 have hsec:A8u (E3 n).1:=by
  refine ⟨by omega,fun s hs=>?_⟩;unfold E3 at hs;split at hs
  ·rw [List.eq_of_mem_replicate hs];exact Nat.zero_le _
  ·cases hs
 have hw:E73 (C6N n cls):=⟨hsec,by simp [C6N,P8],⟨by show cls.length<=_;omega,fun c h=>(hc c h).1⟩,⟨by simp [C6N],fun a ha=>by cases ha⟩,by simp [C6N]⟩;obtain ⟨b,hb,hi⟩:=C3J (C6N n cls) hw;simp only [Q3,A1e,B9Q,A3];have es:C3 (J9 O2 cls) (0,(P8 n).1.2.1,(P8 n).1.2.2.1,(P8 n).1.1.1,(P8 n).1.1.2,(P8 n).1.2.2.2,(P8 n).2,[],[],[],())=_:=ks;rw [es];have hb':O3 (((((E3 n).1,(E3 n).2),((0:Int),((0:Int),[]))),[]),(cls,(List.replicate cls.length false,([],([],List.replicate cls.length (-1))))))=some (b,()):=hb;simp only [hb'];cases b with
 | false=>exact ⟨_,rfl,.inr rfl⟩
 | true=>exact ⟨_,rfl,.inl rfl⟩
def abc:List X0:= [(⟨#[97]⟩:X0),(⟨#[98]⟩:X0),(⟨#[99]⟩:X0)]
theorem E8n:∀ i j:Nat,i<3->j<3->abc[i]? = abc[j]?->i=j:=by
 have ne:∀ a b:UInt8,(⟨#[a]⟩:X0)=⟨#[b]⟩->a=b:=fun a b e=>by
  injection e with e;injection e with e;injection e
 intro i j hi hj;have h:∀ (a b:UInt8),a≠b->(some (⟨#[a]⟩:X0)=some ⟨#[b]⟩->i=j):=fun a b hne e=>absurd (ne a b (Option.some.inj e)) hne
 match i,j,hi,hj with
 | 0,0,_,_=>exact fun _=>rfl
 | 1,1,_,_=>exact fun _=>rfl
 | 2,2,_,_=>exact fun _=>rfl
 | 0,1,_,_=>exact fun e=>absurd (ne 97 98 (Option.some.inj e)) (by decide)
 | 0,2,_,_=>exact fun e=>absurd (ne 97 99 (Option.some.inj e)) (by decide)
 | 1,0,_,_=>exact fun e=>absurd (ne 98 97 (Option.some.inj e)) (by decide)
 | 1,2,_,_=>exact fun e=>absurd (ne 98 99 (Option.some.inj e)) (by decide)
 | 2,0,_,_=>exact fun e=>absurd (ne 99 97 (Option.some.inj e)) (by decide)
 | 2,1,_,_=>exact fun e=>absurd (ne 99 98 (Option.some.inj e)) (by decide)
theorem F0A:∀ s∈abc,idB s=true/\s.size=1:=by
 intro s hs;simp only [abc,List.mem_cons,List.not_mem_nil,or_false] at hs;rcases hs with rfl | rfl | rfl<;>exact ⟨by decide,rfl⟩
structure E4r (j:Int) (cls:List A8):Prop where
 n:(cls.length:Int)+j<=3
 ok:∀ a∈cls,ClG a/\a.2.2.1=1/\∃ i:Nat,i<3/\j<=(i:Int)/\abc[i]? = some a.1
 dist:∀ (p q:Nat) (a b:A8),cls[p]? = some a->cls[q]? = some b->a.1=b.1->p=q
theorem E7F{j:Nat}{cls:List A8}(h:E4r ((j:Int)+1) cls){a:A8}(ha:ClG a)(h1:a.2.2.1=1)(hid:abc[j]? = some a.1):E4r (j:Int) (cls ++ [a]):=by
 have hn:=h.n;have get:∀ (p:Nat) (x:A8),(cls ++ [a])[p]? = some x->(p<cls.length/\cls[p]? = some x)\/(p=cls.length/\x=a):=fun p x hx=>by
  rcases Nat.lt_or_ge p cls.length with hp | hp
  ·rw [List.getElem?_append_left hp] at hx;exact .inl ⟨hp,hx⟩
  ·rw [List.getElem?_append_right hp] at hx;have:=(List.getElem?_eq_some_iff.1 hx).1;simp at this;obtain rfl:p=cls.length:=by omega
   rw [Nat.sub_self] at hx;injection hx with hx
   exact .inr ⟨rfl,hx.symm⟩
 have diff:∀ x∈cls,x.1≠a.1:=fun x hx e=>by
  obtain ⟨_,_,i,hi3,hi,g⟩:=h.ok x hx;rw [e,<- hid] at g;have:=E8n i j hi3 (by have:=(List.getElem?_eq_some_iff.1 hid).1;simpa [abc] using this) g;omega
 refine ⟨by simp;omega,fun x hx=>?_,fun p q x y hx hy e=>?_⟩
 ·rcases List.mem_append.1 hx with hx | hx
  ·obtain ⟨g1,g2,i,g3,g4,g5⟩:=h.ok x hx;exact ⟨g1,g2,i,g3,by omega,g5⟩
  ·rw [List.mem_singleton] at hx;subst hx;have:=(List.getElem?_eq_some_iff.1 hid).1;exact ⟨ha,h1,j,by simpa [abc] using this,Int.le_refl _,hid⟩
 ·rcases get p x hx with ⟨hp,gx⟩ | ⟨hp,rfl⟩<;>rcases get q y hy with ⟨hq,gy⟩ | ⟨hq,rfl⟩
  ·exact h.dist p q x y gx gy e
  ·exact absurd e (diff x (List.mem_of_getElem? gx))
  ·exact absurd e.symm (diff y (List.mem_of_getElem? gy))
  ·omega
theorem E7G{n:Int}(hn:n<=200){cls:List A8}(h:E4r 0 cls):WIw 0 (((E3 n,(0,(0,[]))),[]),(cls,(List.replicate cls.length false,([],([],List.replicate cls.length (-1)))))):=by
 obtain ⟨⟨c,hd⟩,hep,_⟩:=B41 n hn;have hsc:B7 (E3 n).1 = []:=by
  have h1:(0:Int)=((B7 (E3 n).1).length:Int):=by
   rcases hd.g with ⟨_,_,_,h4,_⟩;exact h4
  exact List.eq_nil_of_length_eq_zero (by omega)
 have hl:=h.n;have hrep:∀ {α:Type} (v:α) (i:Nat) (x:α),(List.replicate cls.length v)[i]? = some x->x=v:=fun v i x hx=>(List.mem_replicate.1 (List.mem_of_getElem? hx)).2
 refine wiw (c:=c) (uc:= []) {
  dur:=hd
  ep:=hep
  nd:=fun r hr=>by rw [hsc] at hr;cases hr
  fuc:=by rw [hsc,List.take_nil];rfl
  n6:=by omega
  lb:=List.length_replicate
  lt:=List.length_replicate
  dist:=h.dist
  cl:=fun i a ha=>(h.ok a (List.mem_of_getElem? ha)).1
  cnt:=fun i b hb=>by rw [hrep _ _ _ hb];rfl
  dn:=fun i a ha h5=>by have:=(h.ok a (List.mem_of_getElem? ha)).2.1;omega
  ask:=fun a ha=>by cases ha
  hld:=fun a ha=>by cases ha
  tell:=fun a ha=>by cases ha
  bst:=fun i a b ha hb=>.inl (hrep _ _ _ hb)
  ends:=fun i a ha h5=>by have:=(h.ok a (List.mem_of_getElem? ha)).2.1;omega
  oku:=fun u hu=>by cases hu
  la:=Nat.zero_le _
  l6:=Nat.zero_le _
  lh:=Nat.zero_le _}
theorem E1O(c:B6)(h:Cur c)(j:Int)(hj:0<=j/\j<=3):∃ y c',C3 (A0A A1d H0 G5) (j,c.1,c.2.1,c.2.2,[],())=some (c'.1,c'.2.1,c'.2.2,y,())/\Cur c'/\E4r 0 y:=by
 obtain ⟨z,e,hz⟩:=P0 (A0A A1d H0 G5) (fun l=>l.1.toNat)
  (fun l=>0<=l.1/\l.1<=3/\Cur (l.2.1,(l.2.2.1,l.2.2.2.1))/\E4r l.1 l.2.2.2.2.1) (fun z=>Cur (z.1,(z.2.1,z.2.2.1))/\E4r 0 z.2.2.2.1) (fun l hl=>by
   obtain ⟨g0,g1,g2,g3⟩:=hl;simp only [A0A];by_cases hi:l.1>0
   ·obtain ⟨m,hm⟩:∃ m:Nat,l.1=(m:Int)+1:=⟨(l.1-1).toNat,by omega⟩;have w1:IntKind.i64.wrap (l.1-1)=(m:Int):=by rw [w64 (by omega) (by omega)];omega
    obtain ⟨n,c1,q1,h1,hn⟩:=Q4 _ [0,5,24,60,50] g2 (by simp);have hn2:0<=n/\n<=60:=by
     simp only [List.mem_cons,List.not_mem_nil,or_false] at hn;omega
    obtain ⟨dat,c2,q2,h2,hl2,hb2⟩:=B6V c1 n h1 (by omega);have hm3:m<3:=by omega
    have hmabc:m<abc.length:=hm3;have hrd:rd .str [(⟨#[97]⟩:X0),(⟨#[98]⟩:X0),(⟨#[99]⟩:X0)] (m:Int)=abc[m]:=A7Q (xs:=abc) hmabc;obtain ⟨hid,hsz⟩:=F0A _ (List.getElem_mem hmabc);have hok:G6 (abc[m],dat,1,0)=true:=by
     simp only [G6,Bool.and_eq_true,decide_eq_true_eq];refine ⟨⟨⟨hid,by omega⟩,by omega⟩,by omega⟩
    have hlen:=g3.n;have q3:=D1V abc[m] dat (by simp only [maxLen];omega) (by omega);simp only [C6M,hok,if_true] at q3;rw [A0 hi,w1,A0 (show (0:Int)<=(m:Int) by omega),A0 (by simp;omega),q1];simp only [cond_true,bO,q2,hrd,q3];rw [A0 (by simp;omega),A0 (by simp;omega)];refine .inl ⟨_,rfl,⟨by simp only;omega,by simp only;omega,h2,?_⟩,by simp only;omega⟩;refine E7F (by rw [<- hm];exact g3) ⟨hok,by show (1:Int)≠6;omega,hb2,fun h=>by cases h⟩ rfl (List.getElem?_eq_getElem hmabc)
   ·rw [A4 hi];have e0:l.1=0:=by omega
    rw [e0] at g3;exact .inr ⟨_,rfl,g2,g3⟩) (j,c.1,c.2.1,c.2.2,[],()) ⟨hj.1,hj.2,h,⟨by simp;omega,fun a ha=>by (cases ha),fun p q a b ha=>by (simp at ha)⟩⟩
 exact ⟨z.2.2.2.1,(z.1,(z.2.1,z.2.2.1)),e,hz.1,hz.2⟩
theorem E8o{k:Nat}{w:A5}(h:WIw k w):w.2.1.length<=6/\w.2.2.2.1.length<=60/\w.2.2.2.2.1.length<=60:=by
 obtain ⟨c,uc,h⟩:=h;exact ⟨h.n6,h.la,h.l6⟩
theorem F0f{k k':Nat}{w:A5}(h:WIw k w)(hk:k<=k'):WIw k' w:=by
 obtain ⟨c,uc,h⟩:=h;exact ⟨c,uc,{h with ep:=by have:=h.ep;omega}⟩
theorem E1P(c:B6)(n:Int)(hc:Cur c)(hn:0<n/\n<=1000):∃ w c',T4 c n=some (w,c',())/\WIw 1000 w/\Cur c':=by
 obtain ⟨m,c1,q1,h1,hm⟩:=Q4 c [1,2,3] hc (by simp);have hm2:0<=m/\m<=3:=by
  simp only [List.mem_cons,List.not_mem_nil,or_false] at hm;omega
 obtain ⟨cls,c2,q2,h2,hcls⟩:=E1O c1 h1 m hm2;have hcn:=hcls.n;obtain ⟨w,q3,hw⟩:=D3k 40 cls (by omega) (fun x hx=>by
  obtain ⟨g,_⟩:=hcls.ok x hx;have:=(A2w g).2.1;exact ⟨C1C g,by omega⟩)
 have hw0:WIw 0 w:=by
  rcases hw with rfl | rfl
  ·exact E7G (n:=40) (by omega) hcls
  ·exact E7G (n:=-1) (by omega) (cls:= []) ⟨by simp,fun a ha=>by (cases ha),fun p q a b ha=>by (simp at ha)⟩
 obtain ⟨k,c3,q4,h3,k0,k1⟩:=G8 c2 n h2 (by omega);have q4':C0 (c2.1,(c2.2.1,c2.2.2)) n=_:=q4;simp only [T4,A2e,q1,q2,q3,q4',bO];obtain ⟨z,e,hz⟩:=P0 (A1h A0q N2) (fun l=>l.1.toNat)
  (fun l=>∃ j:Nat,l.1<=1000-(j:Int)/\j<=1000/\WIw j ((((l.2.1,l.2.2.1),(l.2.2.2.1,(l.2.2.2.2.1,l.2.2.2.2.2.1))),l.2.2.2.2.2.2.2.2.2.1),(l.2.2.2.2.2.2.2.2.2.2.1,(l.2.2.2.2.2.2.2.2.2.2.2.1,(l.2.2.2.2.2.2.2.2.2.2.2.2.1,(l.2.2.2.2.2.2.2.2.2.2.2.2.2.1,l.2.2.2.2.2.2.2.2.2.2.2.2.2.2.1)))))/\Cur (l.2.2.2.2.2.2.1,(l.2.2.2.2.2.2.2.1,l.2.2.2.2.2.2.2.2.1))) (fun z=>WIw 1000 z.1/\Cur z.2.1) (fun l hl=>by
   obtain ⟨j,g0,gj,g1,g2⟩:=hl;obtain ⟨w1,w2,w3⟩:=E8o g1;simp only [A1h];by_cases hi:l.1>0
   ·obtain ⟨ev,c',e,hc',hev⟩:=D8f _ _ g2 (Nat.le_trans w1 (by omega)) (Nat.le_trans w2 (by omega)) (Nat.le_trans w3 (by omega));obtain ⟨b,w',q,hw'⟩:=F07 j (by omega) _ g1 ev hev;rw [A0 hi,e];simp only [cond_true,bO];rw [q];simp only [bO];rw [w64 (by omega) (by omega)];exact .inl ⟨_,rfl,⟨j+1,by simp only;omega,by omega,hw',hc'⟩,by simp only;omega⟩
   ·rw [A4 hi];exact .inr ⟨_,rfl,F0f g1 gj,g2⟩) (k,w.1.1.1.1,w.1.1.1.2,w.1.1.2.1,w.1.1.2.2.1,w.1.1.2.2.2,c3.1,c3.2.1,c3.2.2,w.1.2,w.2.1,w.2.2.1,w.2.2.2.1,w.2.2.2.2.1,w.2.2.2.2.2,()) ⟨0,by simp only;omega,by omega,hw0,h3⟩
 exact ⟨z.1,z.2.1,e,hz⟩
def hOk(n:Nat)(h:C1):Prop:=V9 h.2=true/\0<=h.1/\h.1<(n:Int)
def wOk(n:Nat)(a:M6):Prop:=A26 a.2.1=true/\0<=a.1/\a.1<(n:Int)/\Byt a.2.2/\a.2.2.length<=1048576
def cOk(c:A8):Prop:=G6 c=true/\Byt c.2.1
structure RW (st:A6) (held:List C1) (cls:List A8) (busy:List Bool) (asks:List M6) (tells:List C1) (best:List Int):Prop where
 g:GoodS st
 lh:held.length<=200
 hd:∀ h∈held,hOk cls.length h
 n6:cls.length<=6
 lb:busy.length=cls.length
 lt:best.length=cls.length
 cl:∀ c∈cls,cOk c
 la:asks.length<=60
 ask:∀ a∈asks,wOk cls.length a
 l6:tells.length<=60
 tl:∀ h∈tells,hOk cls.length h
def RWw(w:A5):Prop:=RW w.1.1 w.1.2 w.2.1 w.2.2.1 w.2.2.2.1 w.2.2.2.2.1 w.2.2.2.2.2
theorem B6l{id:X0}{st st':A6}(hs:Steps id st st')(h:GoodS st):GoodS st':=by
 induction hs with
 | refl=>exact h
 | step h1 hr e1 e2 hlt hid _ hf ih=>exact (B22 ih hr e1 e2 hlt hf).1
theorem E4s{st:A6}{r:A0t}{dat:List Int}(h:GoodS st)(hb:Byt dat):GoodS (A7T st r dat).1:=by
 have hR:=D6K h (B9W h);unfold A7T;split
 ·exact B6l (B9e hR) h
 ·split
  ·exact B6l (B6h hR hb) h
  ·split
   ·exact B6l (B9f hR) h
   ·split
    ·exact B6l (B9g hR) h
    ·exact h
theorem C6O{st:A6}(h:Ups st.2.2.2)(id:X0):0<=lenOf st id/\lenOf st id<=1000000000:=by
 unfold lenOf;split
 ·rename_i hh;obtain ⟨hlt,_⟩:=H1.1 hh;have hg:=h.2.2 _ (List.getElem_mem hlt);rw [C7 (k:=kUp) hlt];have h1:=hg.1;have h2:=hg.2.1;omega
 ·omega
theorem C1F{s o:Int}(h1:100<=s)(h2:s<=599)(h3:-1<=o)(h4:o<=1000000000):V9 (s,o)=true:=by
 simp only [V9,Bool.and_eq_true,decide_eq_true_eq];omega
theorem B3I{st:A6}(h:Ups st.2.2.2)(c:Int)(id:X0):V9 (J0 st c id)=true:=by
 have hl:=C6O h id;unfold J0
 repeat' split
 all_goals exact C1F (by omega) (by omega) (by omega) (by omega)
theorem E8p{st:A6}(h:Ups st.2.2.2)(r:A0t):V9 (D6M st r)=true:=by
 have hl:=C6O h r.2.1;unfold D6M
 repeat' split
 all_goals exact C1F (by omega) (by omega) (by omega) (by omega)
theorem E4t{st:A6}{r:A0t}{dat:List Int}(h:GoodS st)(hb:Byt dat):V9 (A7T st r dat).2=true:=by
 have hU:=B9W h;have hR:=D6K h hU;unfold A7T;split
 ·simp only;split
  ·exact C1F (by omega) (by omega) (by omega) (by omega)
  ·exact B3I hU _ _
 ·split
  ·simp only;split
   ·rename_i hz;obtain ⟨q1,q2,q3⟩:=B4d hR hb hz;have hl:=C6O (D8N (id:=r.2.1) (off:=r.2.2) (dat:=dat) hR hb).1 r.2.1;exact C1F (by omega) (by omega) (by omega) (by omega)
   ·exact B3I hU _ _
  ·split
   ·simp only;split
    ·exact C1F (by omega) (by omega) (by omega) (by omega)
    ·exact B3I hU _ _
   ·split
    ·simp only;split
     ·exact C1F (by omega) (by omega) (by omega) (by omega)
     ·exact B3I hU _ _
    ·exact E8p hU r
theorem D5N(x:List X0)(hd:A5E (x,x)=true):∃ st b,C5 (x,x)=some (st,b,())/\A1a (x,x)=some (st,b,())/\(b=true->GoodS st):=by
 obtain ⟨hS,_,h200,_⟩:=A4h hd;have hl:x.length<=200:=h200;obtain ⟨st,b,o1,o2,o3,o4⟩:=E8g (x,x) hS;refine ⟨st,b,o1,o2,fun hb=>?_⟩;subst hb;have hll:=A8w 0 0 x;have hfs:=A5B (B7 x) (by simp only [maxLen,B7];omega) (B6e 0 0 x);have htop:=D04 x;cases hf:I1 [] (B7 x) with
 | none=>
  have hf':W8 (B7 x)=([],false,()):=by unfold W8;rw [hf]
  simp only [C5,U4,A9r,hd,C16 (x,x) hS.1,hfs,hf',A9U (x,x) hS.1,A1l (x,x) hS,bO,Bool.not_true,Bool.not_false,cond_false,cond_true] at o1;injection o1 with o1;injection o1 with _ o1;injection o1 with o1;cases o1
 | some us=>
  by_cases hep:A48 x+1<=10000
  ·have hg:=C7f hd hf hep;rw [C18 hg] at o1;injection o1 with o1;injection o1 with o1
   rw [<- o1];exact hg
  ·have hf':W8 (B7 x)=(us,true,()):=by unfold W8;rw [hf]
   simp only [C5,U4,A9r,hd,C16 (x,x) hS.1,hfs,hf',A9U (x,x) hS.1,A1l (x,x) hS,bO,Bool.not_true,Bool.not_false,cond_false,cond_true] at o1;rw [w64 (n:=A48 x+1) (by omega) (by omega),A0 (show A48 x+1>10000 by omega)] at o1;injection o1 with o1;injection o1 with _ o1;injection o1 with o1;cases o1
theorem D8g{d:G0}(h:A5E d=true)(k:List Bool):A5E (B4b d k)=true:=by
 obtain ⟨_,h1,h2,h3,h4⟩:=A4h h;have hm:∀ s∈U1 d.1 d.2 k,s.size<=64:=fun s hs=>(D06 h1 hs).elim (h3 s) (h4 s)
 exact C4P rfl (by show (U1 d.1 d.2 k).length<=_;rw [B9b];exact h2) hm hm
theorem E1Q{st:A6}(h:GoodS st):GoodS ((st.1.1,st.1.1),st.2):=(B24 h).g
theorem A3F{c:A8}(h:cOk c):c.1.size<=8/\c.2.1.length<=400/\idB c.1=true/\1<=c.2.2.1/\c.2.2.1<=6/\0<=c.2.2.2/\c.2.2.2<=(c.2.1.length:Int):=by
 have h1:=h.1;simp only [G6,Bool.and_eq_true,decide_eq_true_eq] at h1;have:=D1H h1.1.1.1;refine ⟨this,by omega,h1.1.1.1,?_⟩;omega
theorem A9u{c:A8}(h:cOk c):c.1.size<=maxLen:=by
 have:=(A3F h).1;simp only [maxLen];omega
theorem D1W{c:A8}(h:cOk c){s o:Int}(h1:1<=s)(h2:s<=6)(h3:0<=o)(h4:o<=(c.2.1.length:Int)):cOk (c.1,c.2.1,s,o):=by
 obtain ⟨_,g2,g3,_⟩:=A3F h;refine ⟨?_,h.2⟩;simp only [G6,Bool.and_eq_true,decide_eq_true_eq];exact ⟨⟨⟨g3,by omega⟩,by omega⟩,by omega⟩
theorem D1a{c:A8}(h:cOk c):cOk (H4 c):=by
 obtain ⟨_,_,_,_,_,h3,h4⟩:=A3F h;unfold H4;split
 ·exact D1W h (by omega) (by omega) h3 h4
 ·exact h
theorem E8q{c:A8}(h:cOk c)(o:Int):cOk (far c o):=by
 obtain ⟨_,_,_,_,_,h3,h4⟩:=A3F h;unfold far;split
 ·rename_i hr;split
  ·exact D1W h (by omega) (by omega) hr.1 hr.2
  ·exact D1W h (by omega) (by omega) hr.1 hr.2
 ·exact D1W h (by omega) (by omega) h3 h4
theorem D6Q(s t:Int)(h1:1<=s)(h2:s<=6):0<=A47 s t/\A47 s t<=6:=by
 unfold A47
 repeat' split
 all_goals omega
theorem E7H{c:A8}(h:cOk c)(r:S9):cOk (hear c r):=by
 obtain ⟨_,_,_,h1,h2,h3,h4⟩:=A3F h;unfold hear;split
 ·exact E8q h _
 ·rename_i hne;have:=D6Q c.2.2.1 r.1 h1 h2;exact D1W h (by omega) (by omega) h3 h4
theorem D6R{r:A0t}(h:A26 r=true):r.2.1.size<=8/\(0<=r.2.2/\r.2.2<=4294967295):=by
 simp only [A26,Bool.and_eq_true,decide_eq_true_eq] at h;refine ⟨D1H h.1.2,h.2.1,?_⟩;have:=h.2.2;unfold B6a at this;split at this
 ·omega
 ·split at this
  ·omega
  ·split at this
   ·omega
   ·omega
theorem D1b{c:A8}(h:cOk c){r:A0t}{d:List Int}(hq:J6 c=(r,d,true,())):A26 r=true/\Byt d/\d.length<=1048576:=by
 obtain ⟨_,h400,hid,h1,h2,h3,h4⟩:=A3F h;have hl:=B9F c;rw [hq] at hl;have hl':d.length<=c.2.1.length:=hl;have hcrc:=B16 h.2;have hx:A6o c.2.1 ^^^ 4294967295<2 ^ 32:=Nat.xor_lt_two_pow hcrc (by omega);have mk:∀ (op n:Int),1<=op->op<=6->0<=n->n<=B6a op->A26 (op,c.1,n)=true:=fun op n g1 g2 g3 g4=>by
  simp only [A26,Bool.and_eq_true,decide_eq_true_eq];exact ⟨⟨by omega,hid⟩,by omega⟩
 have key:(J6 c).2.2.1=true->A26 (J6 c).1=true/\Byt (J6 c).2.1:=by
  unfold J6;rw [h.1];simp only [Bool.true_eq_false,if_false];split
  ·exact fun _=>⟨mk 1 _ (by omega) (by omega) (by omega) (by show _<=(1000000000:Int);omega),T9⟩
  ·split
   ·exact fun _=>⟨mk 2 _ (by omega) (by omega) (by omega) (by show _<=(0:Int);omega),T9⟩
   ·split
    ·exact fun _=>⟨mk 3 _ (by omega) (by omega) (by omega) (by show _<=(1000000000:Int);omega),A9n (A5A h.2 _) _⟩
    ·split
     ·exact fun _=>⟨mk 4 _ (by omega) (by omega) (by omega) (by show _<=(4294967295:Int);omega),T9⟩
     ·exact fun e=>by cases e
 rw [hq] at key;obtain ⟨k1,k2⟩:=key rfl;exact ⟨k1,k2,by omega⟩
theorem E8r(w:A5)(h:D8I w)(hok:L4 w=some (true,()))(i0:Nat)(hi0:i0<w.2.1.length):G6 (rd B3 w.2.1 (i0:Int))=true:=by
 cases hc:G6 (rd B3 w.2.1 (i0:Int)) with
 | true=>rfl
 | false=>
  exfalso;have hl:=h.1;obtain ⟨z,e,hz⟩:=P0 (F7 G3 w) (fun l=>((i0:Int)-l.1).toNat) (fun l=>0<=l.1/\l.1<=(i0:Int)) (fun z=>z=.inr (false,())) (fun l hl=>by
   obtain ⟨l1,u⟩:=l;obtain ⟨h0,h1⟩:=hl;simp only at h0 h1;obtain ⟨i,rfl⟩:∃ i:Nat,l1=(i:Int):=⟨l1.toNat,by omega⟩;have hi':i<w.2.1.length:=by omega
   have hsz:(rd B3 w.2.1 (i:Int)).1.size<=maxLen:=by
    rw [C7 (k:=B3) (xs:=w.2.1) hi'];exact h.2 _ (List.getElem_mem hi')
   simp only [F7];rw [A0 (show (i:Int)<(w.2.1.length:Int) by omega),A0 h0,A1k _ hsz];simp only [cond_true,A3];by_cases hii:i=i0
   ·subst hii;rw [hc];exact .inr ⟨_,rfl,rfl⟩
   ·cases G6 (rd B3 w.2.1 (i:Int)) with
    | false=>exact .inr ⟨_,rfl,rfl⟩
    | true=>
     obtain ⟨z,e,hz⟩:=B9P w h i hi';simp only [Bool.not_true,cond_false];rw [e];rcases hz with rfl | rfl
     ·exact .inl ⟨_,rfl,by simp only;omega,by simp only;omega⟩
     ·exact .inr ⟨_,rfl,rfl⟩) (0,()) (by simp)
  subst hz;simp only [L4,A1v,e,B8] at hok;injection hok with hok;injection hok with hok;cases hok
theorem D1c{n:Nat}{l:List C1}(h:A27 n l=true):∀ x∈l,hOk n x:=fun x hx=>by
 obtain ⟨i,hi,rfl⟩:=List.getElem_of_mem hx;have:=List.all_eq_true.1 h i (List.mem_range.2 hi);rw [C7 (k:=A9) (xs:=l) hi] at this;simp only [D1G,Bool.and_eq_true,decide_eq_true_eq] at this;exact ⟨this.1,by omega,by omega⟩
theorem E7I(w:A5)(hs:Sm 1048576 D67 w)(hu:∀ u∈w.1.1.2.2.2,Byt u.2.2.1)(hcb:∀ c∈w.2.1,Byt c.2.1)(hab:∀ a∈w.2.2.2.1,Byt a.2.2)(hok:O3 w=some (true,())):RWw w:=by
 have hM:(1048576:Nat)<=maxLen:=by simp only [maxLen];omega
 have hWor:=E7B hs;obtain ⟨h1,h2,h3,⟨h4,h4'⟩,h5⟩:=hWor;have hc:=h3.1;obtain ⟨bs,es,ei,hbs⟩:=B3F w.1 h1 h2;obtain ⟨bc,cs,ci,hbc⟩:=C3I w h3;have ht:=B4a w w.2.2.2.2.1 (by simp only [maxLen];omega) hc;have hh:=B4a w w.1.2 (by simp only [maxLen];omega) hc;have hloop:=C1k (S8 A3C E6 w) w.2.2.2.1.length (by simp only [maxLen];omega) (fun i=>C7d w.2.1.length (rd E5 w.2.2.2.1 (i:Int))) (fun i hi=>by
  have g1:((i:Int)<(w.2.2.2.1.length:Int)):=by omega
  have g2:(0:Int)<=(i:Int):=by omega
  have hsz:(rd E5 w.2.2.2.1 (i:Int)).2.1.2.1.size<=maxLen:=by
   rw [C7 (k:=E5) (xs:=w.2.2.2.1) hi];exact h4' _ (List.getElem_mem hi)
  simp only [S8,A0 g1,A0 g2,cond_true,P7,B6b _ hsz,A3,C7d];rw [w64 (n:=(w.2.1.length:Int)-1) (by omega) (by omega)];cases decide (0<=(rd E5 w.2.2.2.1 (i:Int)).1/\(rd E5 w.2.2.2.1 (i:Int)).1<=(w.2.1.length:Int)-1)<;>cases A26 (rd E5 w.2.2.2.1 (i:Int)).2.1<;>rfl) (by simp [S8])
 simp only [O3,A6O,es,cs,ht,hh,hloop,A3] at hok;have no:∀ {x:Bool},some (x,())=some (true,())->x=true:=fun h=>by injection h with h;injection h
 cases bs with
 | false=>exact absurd (no hok) (by simp)
 | true=>
 cases bc with
 | false=>exact absurd (no hok) (by simp)
 | true=>
 simp only [Bool.not_true,cond_false] at hok;by_cases ga:(w.2.2.2.1.length:Int)>60
 ·rw [A0 ga] at hok;exact absurd (no hok) (by simp)
 rw [A4 ga] at hok;simp only [cond_false] at hok;by_cases gt:(w.2.2.2.2.1.length:Int)>60
 ·rw [A0 gt] at hok;exact absurd (no hok) (by simp)
 rw [A4 gt] at hok;simp only [cond_false] at hok;cases e1:A27 w.2.1.length w.2.2.2.2.1 with
 | false=>rw [e1] at hok;exact absurd (no hok) (by simp)
 | true=>
 rw [e1] at hok;simp only [Bool.not_true,cond_false] at hok;cases e2:A27 w.2.1.length w.1.2 with
 | false=>rw [e2] at hok;exact absurd (no hok) (by simp)
 | true=>
 rw [e2] at hok;simp only [Bool.not_true,cond_false] at hok;have hall:=no hok;obtain ⟨k1,k2,k3⟩:=hbs rfl;obtain ⟨n6,n2,n3⟩:=hbc rfl;obtain ⟨b,s1,_,s3⟩:=C7e w.1.1 h1 hu;rw [k1] at s1;injection s1 with s1;injection s1 with s1
 refine {g:=s3.1 s1.symm,lh:=k3,hd:=D1c e2,n6:=n6,lb:=n2,lt:=n3,cl:=fun c hx=>⟨?_,hcb c hx⟩,la:=by omega,ask:=fun a ha=>?_,l6:=by omega,tl:=D1c e1}
 ·obtain ⟨i,hi,rfl⟩:=List.getElem_of_mem hx;have:=E8r w h3 cs i hi;rw [C7 (k:=B3) (xs:=w.2.1) hi] at this;exact this
 ·have hm:Sm 1048576 E5 a:=(Sm.l (Sm.r (Sm.r (Sm.r hs)))).2 a ha;obtain ⟨i,hi,rfl⟩:=List.getElem_of_mem ha;have:=List.all_eq_true.1 hall i (List.mem_range.2 hi);rw [C7 (k:=E5) (xs:=w.2.2.2.1) hi] at this;simp only [C7d,Bool.and_eq_true,decide_eq_true_eq] at this;exact ⟨this.1,by omega,by omega,hab _ (List.getElem_mem hi),(Sm.r (Sm.r hm)).1⟩
def B3J(w:A5)(i:Int):Bool×A5:=
 if 0<=i/\i<(w.2.1.length:Int)/\rd .bool w.2.2.1 i=false/\¬ (w.2.2.2.1.length:Int)=60/\(J6 (rd B3 w.2.1 i)).2.2.1=true then
  (true,(w.1,(w.2.1,(w.2.2.1.set i.toNat true,(w.2.2.2.1 ++ [(i,((J6 (rd B3 w.2.1 i)).1,(J6 (rd B3 w.2.1 i)).2.1))],w.2.2.2.2)))))
 else (false,w)
def A7U(w:A5)(j:Int):Bool×A5:=
 if 0<=j/\j<(w.2.2.2.1.length:Int)/\¬ (w.1.2.length:Int)=200 then
  (true,(((A7T w.1.1 (rd E5 w.2.2.2.1 j).2.1 (rd E5 w.2.2.2.1 j).2.2).1,w.1.2 ++ [((rd E5 w.2.2.2.1 j).1,(A7T w.1.1 (rd E5 w.2.2.2.1 j).2.1 (rd E5 w.2.2.2.1 j).2.2).2)]),(w.2.1,(w.2.2.1,(rm w.2.2.2.1 j.toNat,w.2.2.2.2)))))
 else (false,w)
def B3K(w:A5):Bool×A5:=
 if (w.2.2.2.2.1.length:Int)+(w.1.2.length:Int)>60 then (false,w)
 else (true,((((w.1.1.1.1,w.1.1.1.1),w.1.1.2),[]),(w.2.1,(w.2.2.1,(w.2.2.2.1,(w.2.2.2.2.1++w.1.2,w.2.2.2.2.2))))))
def E1R(a b:Int):Int:=bif decide (b>a) then b else a
def B28(w:A5)(j:Int):Bool×A5:=
 if 0<=j/\j<(w.2.2.2.2.1.length:Int) then
  if rd .bool w.2.2.1 (rd A9 w.2.2.2.2.1 j).1=true then
   (true,(w.1,(w.2.1.set (rd A9 w.2.2.2.2.1 j).1.toNat (A24 (rd B3 w.2.1 (rd A9 w.2.2.2.2.1 j).1) (rd A9 w.2.2.2.2.1 j).2),(w.2.2.1.set (rd A9 w.2.2.2.2.1 j).1.toNat false,(w.2.2.2.1,(rm w.2.2.2.2.1 j.toNat,w.2.2.2.2.2.set (rd A9 w.2.2.2.2.1 j).1.toNat (E1R (rd (.int .i64) w.2.2.2.2.2 (rd A9 w.2.2.2.2.1 j).1) (rd A9 w.2.2.2.2.1 j).2.2)))))))
  else (true,(w.1,(w.2.1,(w.2.2.1,(w.2.2.2.1,(rm w.2.2.2.2.1 j.toNat,w.2.2.2.2.2))))))
 else (false,w)
def C4U(w:A5)(i:Int):Bool×A5:=
 if 0<=i/\i<(w.2.1.length:Int) then
  (true,((w.1.1,w.1.2.filter (fun x=>!decide (x.1=i))),(w.2.1.set i.toNat (H4 (rd B3 w.2.1 i)),(w.2.2.1.set i.toNat false,(w.2.2.2.1.filter (fun x=>!decide (x.1=i)),(w.2.2.2.2.1.filter (fun x=>!decide (x.1=i)),w.2.2.2.2.2))))))
 else (false,w)
noncomputable def A7V(w:A5)(ke:List Bool):Bool×A5:=
 match C5 (B4b w.1.1.1 ke) with
 | some (st,true,_)=>(true,((st,[]),(w.2.1.map H4,(List.replicate w.2.1.length false,([],([],w.2.2.2.2.2))))))
 | _=>(false,w)
noncomputable def evF(w:A5)(e:V2):Bool×A5:=
 if e.1=1 then B3J w e.2.1 else if e.1=2 then A7U w e.2.1 else if e.1=3 then B3K w else if e.1=4 then B28 w e.2.1 else if e.1=5 then C4U w e.2.1 else if e.1=6 then A7V w e.2.2 else (false,w)
theorem E4u{w:A5}{e:V2}(h:(evF w e).1=false):(evF w e).2=w:=by
 revert h;unfold evF B3J A7U B3K B28 C4U A7V
 repeat' split
 all_goals first | exact fun _=>rfl | exact fun h=>absurd h (by simp)
theorem E8s{w:A5}(h:RWw w)(i:Int):RWw (B3J w i).2:=by
 unfold B3J;split
 ·rename_i hc;obtain ⟨h0,h1,h2,h3,h4⟩:=hc;obtain ⟨⟨st,held⟩,cls,busy,asks,tells,best⟩:=w;simp only at h0 h1 h2 h3 h4 ⊢;unfold RWw at h ⊢;simp only at h ⊢;obtain ⟨i,rfl⟩:∃ j:Nat,i=(j:Int):=⟨i.toNat,by omega⟩;have hi:i<cls.length:=by omega
  rw [C7 (k:=B3) (xs:=cls) hi] at h4 ⊢;have hla:=h.la;obtain ⟨k1,k2,k3⟩:=D1b (h.cl _ (List.getElem_mem hi)) (r:=(J6 cls[i]).1) (d:=(J6 cls[i]).2.1) (by rw [<- h4]);refine {h with lb:=by rw [List.length_set];exact h.lb,la:=by simp only [List.length_append,List.length_cons,List.length_nil];omega,ask:=fun a ha=>?_};rcases List.mem_append.1 ha with ha | ha
  ·exact h.ask a ha
  ·rw [List.mem_singleton.1 ha];exact ⟨k1,by show (0:Int)<=(i:Int);omega,by show (i:Int)<_;omega,k2,k3⟩
 ·exact h
theorem E7J{w:A5}(h:RWw w)(j:Int):RWw (A7U w j).2:=by
 unfold A7U;split
 ·rename_i hc;obtain ⟨h0,h1,h2⟩:=hc;obtain ⟨⟨st,held⟩,cls,busy,asks,tells,best⟩:=w;simp only at h0 h1 h2 ⊢;unfold RWw at h ⊢;simp only at h ⊢;obtain ⟨j,rfl⟩:∃ q:Nat,j=(q:Int):=⟨j.toNat,by omega⟩;have hj:j<asks.length:=by omega
  rw [C7 (k:=E5) (xs:=asks) hj];obtain ⟨g1,g2,g3,g4,g5⟩:=h.ask _ (List.getElem_mem hj);have hlh:=h.lh;have hla:=h.la;rw [Int.toNat_natCast];have hrl:=D6O hj;refine {h with g:=E4s h.g g4,lh:=by simp only [List.length_append,List.length_cons,List.length_nil];omega,hd:=fun x hx=>?_,la:=by omega,ask:=fun x hx=>h.ask x (D1T hx)};rcases List.mem_append.1 hx with hx | hx
  ·exact h.hd x hx
  ·rw [List.mem_singleton.1 hx];exact ⟨E4t h.g g4,g2,g3⟩
 ·exact h
theorem E8t{w:A5}(h:RWw w):RWw (B3K w).2:=by
 unfold B3K;split
 ·exact h
 ·rename_i hc;obtain ⟨⟨st,held⟩,cls,busy,asks,tells,best⟩:=w;simp only at hc ⊢;unfold RWw at h ⊢;simp only at h ⊢;exact {h with g:=E1Q h.g,lh:=by simp,hd:=fun x hx=>(by cases hx),l6:=by simp only [List.length_append];omega,tl:=fun x hx=>(List.mem_append.1 hx).elim (h.tl x) (h.hd x)}
theorem D6S{c:A8}(h:cOk c)(r:S9):cOk (A24 c r):=by
 unfold A24;split
 ·exact E7H h r
 ·exact h
theorem D07{α:Type}{l:List α}{i:Nat}{v x:α}(h:x∈l.set i v):x∈l\/x=v:=List.mem_or_eq_of_mem_set h
theorem E8u{w:A5}(h:RWw w)(j:Int):RWw (B28 w j).2:=by
 unfold B28;split
 ·rename_i hc;obtain ⟨h0,h1⟩:=hc;obtain ⟨⟨st,held⟩,cls,busy,asks,tells,best⟩:=w;simp only at h0 h1 ⊢;obtain ⟨j,rfl⟩:∃ q:Nat,j=(q:Int):=⟨j.toNat,by omega⟩;have hj:j<tells.length:=by omega
  have hrl:=D6O hj;have hl6:=h.l6;simp only at hl6;rw [C7 (k:=A9) (xs:=tells) hj,Int.toNat_natCast];have hh:=h.tl _ (List.getElem_mem hj);simp only at hh;obtain ⟨g1,g2,g3⟩:=hh;split
  ·unfold RWw at h ⊢;simp only at h ⊢;have hlen:(cls.set tells[j].1.toNat (A24 (rd B3 cls tells[j].1) tells[j].2)).length=cls.length:=List.length_set;refine {h with n6:=by rw [hlen];exact h.n6,lb:=by rw [hlen,List.length_set];exact h.lb,lt:=by rw [hlen,List.length_set];exact h.lt,cl:=fun c hc=>?_,ask:=fun a ha=>by rw [hlen];exact h.ask a ha,hd:=fun a ha=>by rw [hlen];exact h.hd a ha,tl:=fun a ha=>by rw [hlen];exact h.tl a (D1T ha),l6:=by omega};rcases D07 hc with hc | hc
   ·exact h.cl c hc
   ·rw [hc];refine D6S ?_ _;obtain ⟨i,hi⟩:∃ i:Nat,tells[j].1=(i:Int):=⟨tells[j].1.toNat,by omega⟩;rw [hi,C7 (k:=B3) (xs:=cls) (by omega)];exact h.cl _ (List.getElem_mem _)
  ·unfold RWw at h ⊢;simp only at h ⊢;exact {h with l6:=by omega,tl:=fun a ha=>h.tl a (D1T ha)}
 ·exact h
theorem F0B{w:A5}(h:RWw w)(i:Int):RWw (C4U w i).2:=by
 unfold C4U;split
 ·rename_i hc;obtain ⟨h0,h1⟩:=hc;obtain ⟨⟨st,held⟩,cls,busy,asks,tells,best⟩:=w;simp only at h0 h1 ⊢;unfold RWw at h ⊢;simp only at h ⊢;obtain ⟨i,rfl⟩:∃ j:Nat,i=(j:Int):=⟨i.toNat,by omega⟩;have hi:i<cls.length:=by omega
  rw [C7 (k:=B3) (xs:=cls) hi,Int.toNat_natCast];have hlen:(cls.set i (H4 cls[i])).length=cls.length:=List.length_set;have l1:=List.length_filter_le (fun x:C1=>!decide (x.1=(i:Int))) held;have l2:=List.length_filter_le (fun x:M6=>!decide (x.1=(i:Int))) asks;have l3:=List.length_filter_le (fun x:C1=>!decide (x.1=(i:Int))) tells;have k1:=h.lh;have k2:=h.la;have k3:=h.l6;refine {h with n6:=by rw [hlen];exact h.n6,lb:=by rw [hlen,List.length_set];exact h.lb,lt:=by rw [hlen];exact h.lt,cl:=fun c hc=>?_,ask:=fun a ha=>by rw [hlen];exact h.ask a (List.mem_filter.1 ha).1,hd:=fun a ha=>by rw [hlen];exact h.hd a (List.mem_filter.1 ha).1,tl:=fun a ha=>by rw [hlen];exact h.tl a (List.mem_filter.1 ha).1,lh:=Nat.le_trans l1 k1,la:=Nat.le_trans l2 k2,l6:=Nat.le_trans l3 k3};rcases D07 hc with hc | hc
  ·exact h.cl c hc
  ·rw [hc];exact D1a (h.cl _ (List.getElem_mem hi))
 ·exact h
theorem E7K{w:A5}(h:RWw w)(ke:List Bool):RWw (A7V w ke).2:=by
 obtain ⟨st,b,o1,o2,o3⟩:=D5N _ (D8g h.g.dk ke);unfold A7V;have o1':C5 (B4b w.1.1.1 ke)=some (st,b,()):=o1;rw [o1'];cases b with
 | false=>exact h
 | true=>
  obtain ⟨⟨st0,held⟩,cls,busy,asks,tells,best⟩:=w;unfold RWw at h ⊢;simp only at h ⊢;exact {g:=o3 rfl,lh:=by simp,hd:=fun x hx=>(by cases hx),n6:=by rw [List.length_map];exact h.n6,lb:=by simp,lt:=by rw [List.length_map];exact h.lt,cl:=fun c hc=>by obtain ⟨a,ha,rfl⟩:=List.mem_map.1 hc;exact D1a (h.cl a ha),la:=by simp,ask:=fun x hx=>(by cases hx),l6:=by simp,tl:=fun x hx=>(by cases hx)}
theorem F0g{w:A5}(h:RWw w)(e:V2):RWw (evF w e).2:=by
 unfold evF
 repeat' split
 ·exact E8s h _
 ·exact E7J h _
 ·exact E8t h
 ·exact E8u h _
 ·exact F0B h _
 ·exact E7K h _
 ·exact h
theorem E7L{α:Type}{l:List α}{j:Nat}(h:j<l.length):B7O l (j:Int) ((j:Int)+1)=some (rm l j,()):=by
 unfold B7O;rw [A0 (show (0:Int)<=(j:Int) by omega),A0 (show (j:Int)<(j:Int)+1 by omega),A0 (show (j:Int)+1<=(l.length:Int) by omega)];simp only [cond_true];rw [Int.toNat_natCast,show ((j:Int)+1).toNat=j+1 by omega];rfl
theorem E7M{α:Type}{l:List α}{j:Nat}:([]++(l.take j).drop 0)++(l.take l.length).drop ((j:Int)+1).toNat=rm l j:=by
 unfold rm;rw [show ((j:Int)+1).toNat=j+1 by omega,List.drop_zero,List.take_length];rfl
theorem E3R{w:A5}(h:RWw w)(i:Int):A3r w i=some ((B3J w i).1,(B3J w i).2,())/\A1c w i=some ((B3J w i).1,(B3J w i).2,()):=by
 obtain ⟨⟨st,held⟩,cls,busy,asks,tells,best⟩:=w;unfold RWw at h;simp only at h;have hn:=h.n6;have hlb:=h.lb;have hla:=h.la;simp only [A3r,B1l,A1c,A9M,P3,P7,bO,B3J];rw [w64 (n:=(cls.length:Int)-1) (by omega) (by omega)];by_cases hr:0<=i/\i<=(cls.length:Int)-1
 ·obtain ⟨i,rfl⟩:∃ j:Nat,i=(j:Int):=⟨i.toNat,by omega⟩;have hic:i<cls.length:=by omega
  obtain ⟨cl,hcl⟩:∃ x,cls[i]? = some x:=⟨_,List.getElem?_eq_getElem hic⟩;obtain ⟨b,hb⟩:∃ x,busy[i]? = some x:=⟨_,List.getElem?_eq_getElem (by omega)⟩;have hg:=h.cl cl (List.mem_of_getElem? hcl);rw [A0 hr,A0 (show (0:Int)<=(i:Int) by omega),A0 (show (i:Int)<(busy.length:Int) by omega),A0 (show (i:Int)<(cls.length:Int) by omega),A28 .bool hb,A28 C7h hcl,A28 B3 hcl,C4H cl (A9u hg) hg.2,D6E cl (A9u hg) hg.2];simp only [Bool.not_true,cond_false,cond_true];cases b with
  | true=>
   rw [if_neg (fun hx=>by have:=hx.2.2.1;cases this)];exact ⟨rfl,rfl⟩
  | false=>
   simp only [cond_false];by_cases h60:(asks.length:Int)=60
   ·rw [A0 h60,A0 (show (asks.length:Int)>=60 by omega),if_neg (fun hx=>hx.2.2.2.1 h60)];exact ⟨rfl,rfl⟩
   ·rw [A4 h60,A4 (show ¬ (asks.length:Int)>=60 by omega)];simp only [cond_false,B8,bO];generalize J6 cl=q;obtain ⟨r,dat,ok,u⟩:=q;cases ok with
    | false=>
     rw [if_neg (fun hx=>by have:=hx.2.2.2.2;cases this)];exact ⟨rfl,rfl⟩
    | true=>
     rw [if_pos ⟨by omega,by omega,trivial,h60,rfl⟩];simp only [Bool.not_true,cond_false,cond_true];rw [A0 (by simp;omega),A0 (by simp;omega)];exact ⟨rfl,rfl⟩
 ·rw [A4 hr,if_neg (fun hx=>hr ⟨hx.1,by omega⟩)];exact ⟨rfl,rfl⟩
theorem D5O{w:A5}(h:RWw w)(j:Int):A2o w j=some ((A7U w j).1,(A7U w j).2,())/\A10 w j=some ((A7U w j).1,(A7U w j).2,()):=by
 obtain ⟨⟨st,held⟩,cls,busy,asks,tells,best⟩:=w;unfold RWw at h;simp only at h;have hla:=h.la;have hlh:=h.lh;obtain ⟨hR,hS,hok,_⟩:=B25 h.g;simp only [A2o,B0D,A10,A7J,P3,P7,bO,A7U];rw [w64 (n:=(asks.length:Int)-1) (by omega) (by omega)];by_cases hr:0<=j/\j<=(asks.length:Int)-1
 ·obtain ⟨j,rfl⟩:∃ q:Nat,j=(q:Int):=⟨j.toNat,by omega⟩;have hjl:j<asks.length:=by omega
  obtain ⟨a,ha⟩:∃ x,asks[j]? = some x:=⟨_,List.getElem?_eq_getElem hjl⟩;obtain ⟨g1,g2,g3,g4,g5⟩:=h.ask a (List.mem_of_getElem? ha);obtain ⟨q1,q2,q3⟩:=D6R g1;have hid:a.2.1.2.1.size<=maxLen:=by simp only [maxLen];omega
  have ho:-9223372036854775808<=a.2.1.2.2/\a.2.1.2.2<=9223372036854775807:=by omega
  rw [A0 hr,A0 (show (0:Int)<=(j:Int) by omega),A0 (show (j:Int)<(asks.length:Int) by omega),A0 (show (j:Int)<=(asks.length:Int) by omega),A28 D6N ha,A28 E5 ha,w64 (n:=(j:Int)+1) (by omega) (by omega)];simp only [Bool.not_true,cond_false,cond_true,A4U,A8e,D1F a.2.1 hid,g1,bO];by_cases h200:(held.length:Int)=200
  ·rw [A0 h200,A0 (show (held.length:Int)>=200 by omega),if_neg (fun hx=>hx.2.2 h200)];exact ⟨rfl,rfl⟩
  ·rw [A4 h200,A4 (show ¬ (held.length:Int)>=200 by omega),if_pos ⟨by omega,by omega,h200⟩];have e1:=D5K st a.2.1 a.2.2 hid hR hS hok g4 g5 ho;have e2:=D8b (st,held) a.2.1 a.2.2 hid hR g4 g5 ho;simp only [cond_false,B8,e1,e2,bO,K3,E7L hjl,E7M,Int.toNat_natCast];rw [A0 (by simp;omega),A0 (by simp;omega),A0 (show (0:Int)<=(j:Int)+1 by omega),A0 (show (j:Int)+1<=(asks.length:Int) by omega),A0 (by simp;omega),A0 (by simp;omega),A0 (by simp;omega),A0 (by simp;omega)];exact ⟨rfl,rfl⟩
 ·rw [A4 hr,if_neg (fun hx=>hr ⟨hx.1,by omega⟩)];exact ⟨rfl,rfl⟩
theorem D8h{w:A5}(h:RWw w):A3s w=some ((B3K w).1,(B3K w).2,())/\A40 w=some ((B3K w).1,(B3K w).2,()):=by
 obtain ⟨⟨st,held⟩,cls,busy,asks,tells,best⟩:=w;unfold RWw at h;simp only at h;have hl6:=h.l6;have hlh:=h.lh;obtain ⟨hR,hS,_⟩:=B25 h.g;simp only [A3s,B1n,A40,B2w,A2R,A5w,B3K,E0w st.1 hS.1,B6W st.1 hS.1,bO];rw [w64 (n:=(tells.length:Int)+(held.length:Int)) (by omega) (by omega)];by_cases h60:(tells.length:Int)+(held.length:Int)>60
 ·rw [A0 h60,if_pos h60];exact ⟨rfl,rfl⟩
 ·rw [A4 h60,if_neg h60,A0 (by omega),A0 (by omega)];exact ⟨rfl,rfl⟩
theorem E3S{a b:Int}(h:b>a):E1R a b=b:=by unfold E1R;rw [A0 h];rfl
theorem E3T{a b:Int}(h:¬ b>a):E1R a b=a:=by unfold E1R;rw [A4 h];rfl
theorem D8i{w:A5}(h:RWw w)(j:Int):A3t w j=some ((B28 w j).1,(B28 w j).2,())/\A1f w j=some ((B28 w j).1,(B28 w j).2,()):=by
 obtain ⟨⟨st,held⟩,cls,busy,asks,tells,best⟩:=w;unfold RWw at h;simp only at h;have hn:=h.n6;have hl6:=h.l6;have hlb:=h.lb;have hlt:=h.lt;simp only [A3t,B1o,A1f,A9O,P3,P7,bO,B28];rw [w64 (n:=(tells.length:Int)-1) (by omega) (by omega)];by_cases hr:0<=j/\j<=(tells.length:Int)-1
 ·obtain ⟨j,rfl⟩:∃ q:Nat,j=(q:Int):=⟨j.toNat,by omega⟩;have hjl:j<tells.length:=by omega
  obtain ⟨a,ha⟩:∃ x,tells[j]? = some x:=⟨_,List.getElem?_eq_getElem hjl⟩;obtain ⟨g1,g2,g3⟩:=h.tl a (List.mem_of_getElem? ha);obtain ⟨who,resp⟩:=a;simp only at g1 g2 g3;obtain ⟨i,rfl⟩:∃ q:Nat,who=(q:Int):=⟨who.toNat,by omega⟩;have hic:i<cls.length:=by omega
  obtain ⟨cl,hcl⟩:∃ x,cls[i]? = some x:=⟨_,List.getElem?_eq_getElem hic⟩;obtain ⟨b,hb⟩:∃ x,busy[i]? = some x:=⟨_,List.getElem?_eq_getElem (show i<busy.length by omega)⟩;obtain ⟨bt0,hbt⟩:∃ x,best[i]? = some x:=⟨_,List.getElem?_eq_getElem (show i<best.length by omega)⟩;have hg:=h.cl cl (List.mem_of_getElem? hcl);have hsz:=A3F hg;rw [A0 hr,A28 A9 ha];have hhr:A24 cl resp=if A59 cl=true then cl else hear cl resp:=by
   unfold A24;rw [hg.1,g1];cases A59 cl<;>rfl
  have hset:∀ {α:Type} {l:List α} {n:Nat} {v:α},l[n]? = some v->l.set n v=l:=fun {α l n v} hv=>by
   obtain ⟨hn,e⟩:=List.getElem?_eq_some_iff.1 hv;rw [<- e];exact List.set_getElem_self hn
  simp only [Bool.not_true,cond_false];rw [if_pos (show (0:Int)<=(j:Int)/\(j:Int)<(tells.length:Int) by omega),A28 .bool hb,A28 B3 hcl,A28 (.int .i64) hbt,w64 (n:=(j:Int)+1) (by omega) (by omega),Int.toNat_natCast,Int.toNat_natCast];constructor
  ·rw [A0 (show (0:Int)<=(j:Int) by omega),A0 (show (j:Int)<(tells.length:Int) by omega),A0 (show (0:Int)<=(i:Int) by omega),A0 (show (i:Int)<(busy.length:Int) by omega),A0 (show (i:Int)<(cls.length:Int) by omega),A0 (show (i:Int)<(best.length:Int) by omega),D3g cl resp (A9u hg) (by omega)];simp only [cond_true,bO,K5,E7L hjl];cases b<;>rfl
  ·rw [A0 (show (0:Int)<=(j:Int) by omega),A0 (show (j:Int)<(tells.length:Int) by omega),A0 (show (j:Int)<=(tells.length:Int) by omega),
    A0 (show (0:Int)<=(j:Int)+1 by omega),A0 (show (j:Int)+1<=(tells.length:Int) by omega),A0 (by simp;omega),A0 (by simp;omega),A0 (by simp;omega),A0 (by simp;omega),
    A0 (show (0:Int)<=(i:Int) by omega),A0 (show (i:Int)<(busy.length:Int) by omega),A0 (show (i:Int)<(cls.length:Int) by omega),A28 C7h hcl,C3F,D15]
   simp only [cond_true,bO,E7M];cases b with
   | false=>rfl
   | true=>
    simp only [cond_true,if_true];cases hov:A59 cl with
    | true=>
     have e1:A24 cl resp=cl:=by rw [hhr,hov];rfl
     rw [e1,hset hcl];simp only [Bool.not_true,cond_false,cond_true,bO];rw [A0 (show (i:Int)<(best.length:Int) by omega),A28 (.int .i64) hbt];by_cases hgt:resp.2>bt0
     ·rw [A0 hgt,E3S hgt];rfl
     ·rw [A4 hgt,E3T hgt,hset hbt];rfl
    | false=>
     have e1:A24 cl resp=hear cl resp:=by rw [hhr,hov];rfl
     rw [e1];simp only [Bool.not_false,cond_false,cond_true,bO];rw [A0 (show (i:Int)<(best.length:Int) by omega),A28 (.int .i64) hbt];by_cases hgt:resp.2>bt0
     ·rw [A0 hgt,E3S hgt];rfl
     ·rw [A4 hgt,E3T hgt,hset hbt];rfl
 ·rw [A4 hr,if_neg (fun hx=>hr ⟨hx.1,by omega⟩)];exact ⟨rfl,rfl⟩
theorem E3U{w:A5}{i:Nat}{cl:A8}(hcl:w.2.1[i]? = some cl)(hb:i<w.2.2.1.length)(hg:cOk cl):A0E w (i:Int)=some ((w.1,(w.2.1.set i (H4 cl),(w.2.2.1.set i false,w.2.2.2))),()):=by
 have hi:=E1N hcl;have:=A3F hg;simp only [A0E,B1q];rw [A0 (show (0:Int)<=(i:Int) by omega),A0 (show (i:Int)<(w.2.1.length:Int) by omega),A0 (show (i:Int)<(w.2.2.1.length:Int) by omega),A28 B3 hcl,D8c cl (A9u hg) (by omega)];rfl
theorem E3V{w:A5}(h:RWw w)(i:Int):A52 w i=some ((C4U w i).1,(C4U w i).2,())/\A2c w i=some ((C4U w i).1,(C4U w i).2,()):=by
 obtain ⟨⟨st,held⟩,cls,busy,asks,tells,best⟩:=w;unfold RWw at h;simp only at h;have hn:=h.n6;have hlb:=h.lb;have hla:=h.la;have hl6:=h.l6;have hlh:=h.lh;simp only [A52,B3r,A2c,B14,P3,P7,bO,C4U];rw [w64 (n:=(cls.length:Int)-1) (by omega) (by omega)];by_cases hr:0<=i/\i<=(cls.length:Int)-1
 ·obtain ⟨i,rfl⟩:∃ q:Nat,i=(q:Int):=⟨i.toNat,by omega⟩;have hic:i<cls.length:=by omega
  obtain ⟨cl,hcl⟩:∃ x,cls[i]? = some x:=⟨_,List.getElem?_eq_getElem hic⟩;have hg:=h.cl cl (List.mem_of_getElem? hcl);have hsz:=A3F hg;rw [A0 hr,D1U (((st,held),(cls,(busy,(asks,(tells,best))))):A5) (i:Int) (by show asks.length<=_;omega),C1D tells _ (by omega),C1D held _ (by omega),A0 (show (0:Int)<=(i:Int) by omega),A0 (show (i:Int)<(cls.length:Int) by omega),A0 (show (i:Int)<(busy.length:Int) by omega),A28 C7h hcl,A28 B3 hcl,B3H cl (A9u hg) (by omega),if_pos ⟨by omega,by omega⟩];refine ⟨?_,rfl⟩;simp only [Bool.not_true,cond_false,H8,I0,C2n,bO];rw [E3U (w:=(((st,held.filter fun a=>!decide (a.1=(i:Int))),(cls,(busy,(asks.filter fun a=>!decide (a.1=(i:Int)),(tells.filter fun a=>!decide (a.1=(i:Int)),best))))):A5)) hcl (by show i<busy.length;omega) hg];rfl
 ·rw [A4 hr,if_neg (fun hx=>hr ⟨hx.1,by omega⟩)];exact ⟨rfl,rfl⟩
theorem D5P{w:A5}(h:RWw w)(ke:List Bool):A2q w ke=some ((A7V w ke).1,(A7V w ke).2,())/\A11 w ke=some ((A7V w ke).1,(A7V w ke).2,()):=by
 obtain ⟨⟨st0,held⟩,cls,busy,asks,tells,best⟩:=w;unfold RWw at h;simp only at h;have hn:=h.n6;have hlb:=h.lb;obtain ⟨st,b,o1,o2,o3⟩:=D5N _ (D8g h.g.dk ke);have o1':C5 (B4b st0.1 ke)=some (st,b,()):=o1;have o2':A1a (B4b st0.1 ke)=some (st,b,()):=o2;simp only [A2q,B0F,A11,A7L,A4a,A8f,A7V,B4c st0.1 ke h.g.dk,E4h st0.1 ke h.g.dk,o1',o2',bO];cases b with
 | false=>exact ⟨rfl,rfl⟩
 | true=>
  simp only [cond_true,Bool.not_true,cond_false,bO];have hlm:(cls.map H4).length=cls.length:=List.length_map _;have hlr:(List.replicate cls.length false).length=busy.length:=by rw [List.length_replicate];omega
  have z1:A4B (cls.map H4) cls cls.length=cls.map H4:=by unfold A4B;rw [List.drop_length,List.append_nil,List.take_of_length_le (by simp)]
  have z2:A4B (List.replicate cls.length false) busy cls.length=List.replicate cls.length false:=by unfold A4B;rw [<- hlb,List.drop_length,List.append_nil,List.take_of_length_le (by simp)]
  constructor
  ·refine E0 (A3N A0E (((st0,held),(cls,(busy,(asks,(tells,best))))):A5)) (fun j=>((j:Int),st.2.1,st.2.2.1,st.1.1,st.1.2,st.2.2.2,([]:List C1),A4B (cls.map H4) cls j,A4B (List.replicate cls.length false) busy j,([]:List M6),([]:List C1),best,())) cls.length
    (true,(((((st.1.1,st.1.2),(st.2.1,(st.2.2.1,st.2.2.2))),[]),(cls.map H4,(List.replicate cls.length false,([],([],best))))):A5),()) (fun j hj=>?_) ?_
   ·have l2:=B23 (l:=List.replicate cls.length false) (x:=busy) hlr j;have gc:=B9c (l:=cls.map H4) (x:=cls) hlm hj;rw [List.getElem?_eq_getElem hj] at gc;have hg:=h.cl _ (List.getElem_mem hj);have hrest:=E3U (w:=(((((st.1.1,st.1.2),(st.2.1,(st.2.2.1,st.2.2.2))),[]),(A4B (cls.map H4) cls j,(A4B (List.replicate cls.length false) busy j,([],([],best))))):A5)) gc (by show j<(A4B (List.replicate cls.length false) busy j).length;omega) hg;simp only [A3N];rw [A0 (show (j:Int)<(cls.length:Int) by omega),hrest,w64 (by omega) (by omega)];have e1:=A9s (l:=cls.map H4) (x:=cls) hlm (i:=j) (by omega);have e2:=A9s (l:=List.replicate cls.length false) (x:=busy) hlr (i:=j) (by rw [List.length_replicate];exact hj);rw [List.getElem_map] at e1;rw [List.getElem_replicate] at e2;simp only [cond_true,bO];rw [e1,e2];rfl
   ·simp only [A3N,z1,z2];rw [A4 (by omega)];rfl
  ·refine E0 (A02 A2a) (fun j=>((j:Int),st.2.1,st.2.2.1,([]:List M6),([]:List C1),A4B (cls.map H4) cls j,A4B (List.replicate cls.length false) busy j,best,st.1.1,st.1.2,st.2.2.2,())) cls.length
    (true,(((((st.1.1,st.1.2),(st.2.1,(st.2.2.1,st.2.2.2))),[]),(cls.map H4,(List.replicate cls.length false,([],([],best))))):A5),()) (fun j hj=>?_) ?_
   ·have l1:=B23 (l:=cls.map H4) (x:=cls) hlm j;have l2:=B23 (l:=List.replicate cls.length false) (x:=busy) hlr j;have gc:=B9c (l:=cls.map H4) (x:=cls) hlm hj;rw [List.getElem?_eq_getElem hj] at gc;have hg:=h.cl _ (List.getElem_mem hj);have hsz:=A3F hg;simp only [A02,l1,l2];rw [A0 (show (j:Int)<(cls.length:Int) by omega),A0 (show (0:Int)<=(j:Int) by omega),A28 C7h gc,B3H _ (A9u hg) (by omega),A0 (show (j:Int)<(busy.length:Int) by omega),w64 (by omega) (by omega)];have e1:=A9s (l:=cls.map H4) (x:=cls) hlm (i:=j) (by omega);have e2:=A9s (l:=List.replicate cls.length false) (x:=busy) hlr (i:=j) (by rw [List.length_replicate];exact hj);rw [List.getElem_map] at e1;rw [List.getElem_replicate] at e2;simp only [cond_true,bO,Int.toNat_natCast];rw [e1,e2];rfl
   ·simp only [A02,z1,z2,List.length_map];rw [A4 (by omega)];rfl
theorem F0h{w:A5}(h:RWw w)(e:V2):A7A w e=some ((evF w e).1,(evF w e).2,())/\A0q w e=some ((evF w e).1,(evF w e).2,()):=by
 simp only [A7A,B6D,A0q,B33,evF,(E3R h _).1,(E3R h _).2,(D5O h _).1,(D5O h _).2,(D8h h).1,(D8h h).2,(D8i h _).1,(D8i h _).2,(E3V h _).1,(E3V h _).2,(D5P h _).1,(D5P h _).2,bO];by_cases h1:e.1=1
 ·rw [A0 h1,if_pos h1];exact ⟨rfl,rfl⟩
 rw [A4 h1,if_neg h1];by_cases h2:e.1=2
 ·rw [A0 h2,if_pos h2];exact ⟨rfl,rfl⟩
 rw [A4 h2,if_neg h2];by_cases h3:e.1=3
 ·rw [A0 h3,if_pos h3];exact ⟨rfl,rfl⟩
 rw [A4 h3,if_neg h3];by_cases h4:e.1=4
 ·rw [A0 h4,if_pos h4];exact ⟨rfl,rfl⟩
 rw [A4 h4,if_neg h4];by_cases h5:e.1=5
 ·rw [A0 h5,if_pos h5];exact ⟨rfl,rfl⟩
 rw [A4 h5,if_neg h5];by_cases h6:e.1=6
 ·rw [A0 h6,if_pos h6];exact ⟨rfl,rfl⟩
 rw [A4 h6,if_neg h6];exact ⟨rfl,rfl⟩
theorem E4v(a:List Bool)(h:a.length<=1048576):Q0 a=some (a,()):=by
 simp only [Q0,A1W];have e:(bif decide (([]:List Bool).length+a.length<=9223372036854775807) then bif decide ((([]:List Bool).length+a.length)*1<=140737488355328) then some (([]++a),()) else none else none)=some (a,()):=by
  rw [A0 (by simp;omega),A0 (by simp;omega)];simp
 rw [e];cases a with
 | nil=>simp [B9D]
 | cons x xs=>simp
theorem E4w(a:List Int)(h:a.length<=1048576):T1 a=some (a,()):=by
 simp only [T1,A2O];have e:(bif decide (([]:List Int).length+a.length<=9223372036854775807) then bif decide ((([]:List Int).length+a.length)*8<=140737488355328) then some (([]++a),()) else none else none)=some (a,()):=by
  rw [A0 (by simp;omega),A0 (by simp;omega)];simp
 rw [e];cases a with
 | nil=>simp [B9D]
 | cons x xs=>simp
structure CpS (w:A5):Prop where
 sv:E3O w.1
 cl:w.2.1.length<=1048576
 fi:∀ c∈w.2.1,c.2.1.length<=1048576
 bu:w.2.2.1.length<=1048576
 as_:w.2.2.2.1.length<=1048576
 da:∀ a∈w.2.2.2.1,a.2.2.length<=1048576
 te:w.2.2.2.2.1.length<=1048576
 be_:w.2.2.2.2.2.length<=1048576
theorem D1d{w:A5}(h:CpS w):A50 w=some (w,()):=by
 obtain ⟨⟨⟨⟨now,sure⟩,ep,nx,ups⟩,held⟩,cls,busy,asks,tells,best⟩:=w;obtain ⟨h1,h2,h3,h4,h5,h6,h7,h8⟩:=h;simp only at h1 h2 h3 h4 h5 h6 h7 h8;simp only [A50,B3p,C8o _ h1,E4v _ h4,D5F _ h7,E4w _ h8,bO];have k1:C3 (A2l N9 (((((now,sure),(ep,(nx,ups))),held),(cls,(busy,(asks,(tells,best))))):A5)) (0,ep,nx,now,sure,ups,held,busy,tells,best,[],())=some (ep,nx,now,sure,ups,held,busy,tells,best,cls,()):=by
  have key:=E0 (A2l N9 (((((now,sure),(ep,(nx,ups))),held),(cls,(busy,(asks,(tells,best))))):A5)) (fun i=>((i:Int),ep,nx,now,sure,ups,held,busy,tells,best,cls.take i,())) cls.length (ep,nx,now,sure,ups,held,busy,tells,best,cls,()) (fun i hi=>?_) ?_
  ·simpa using key
  ·have g1:(i:Int)<(cls.length:Int):=by omega
   have g2:(0:Int)<=(i:Int):=by omega
   have hf:=h3 _ (List.getElem_mem hi);simp only [A2l,A0 g1,A0 g2,cond_true];rw [C7 (k:=B3) (xs:=cls) hi,B3w _ (by omega)];simp only [bO];rw [A0 (by simp;omega),A0 (by simp;omega),w64 (by omega) (by omega),List.take_succ_eq_append_getElem hi];rfl
  ·simp [A2l]
 rw [k1];simp only [bO];have key:=E0 (A5j D0 (((((now,sure),(ep,(nx,ups))),held),(cls,(busy,(asks,(tells,best))))):A5)) (fun i=>((i:Int),ep,nx,now,sure,ups,held,busy,tells,best,cls,asks.take i,())) asks.length ((((((now,sure),(ep,(nx,ups))),held),(cls,(busy,(asks,(tells,best))))):A5),()) (fun i hi=>?_) ?_
 ·simpa using key
 ·have g1:(i:Int)<(asks.length:Int):=by omega
  have g2:(0:Int)<=(i:Int):=by omega
  have hf:=h6 _ (List.getElem_mem hi);simp only [A5j,A0 g1,A0 g2,cond_true];rw [C7 (k:=E5) (xs:=asks) hi,A58 _ (by omega)];simp only [bO];rw [A0 (by simp;omega),A0 (by simp;omega),w64 (by omega) (by omega),List.take_succ_eq_append_getElem hi];rfl
 ·simp [A5j]
theorem B9h{w:A5}(h:CpS w):A2C w=some (w,()):=by
 obtain ⟨⟨⟨⟨now,sure⟩,ep,nx,ups⟩,held⟩,cls,busy,asks,tells,best⟩:=w;obtain ⟨h1,h2,h3,h4,h5,h6,h7,h8⟩:=h;simp only at h1 h2 h3 h4 h5 h6 h7 h8;simp only [A2C,B35,B0J _ h1,bO,List.nil_append,List.length_nil,Nat.zero_add];rw [A0 (show busy.length<=9223372036854775807 by omega),A0 (show busy.length*1<=140737488355328 by omega),A0 (show tells.length<=9223372036854775807 by omega),A0 (show tells.length*24<=140737488355328 by omega),A0 (show best.length<=9223372036854775807 by omega),A0 (show best.length*8<=140737488355328 by omega)];simp only [cond_true];have k1:C3 (A57 O2 (((((now,sure),(ep,(nx,ups))),held),(cls,(busy,(asks,(tells,best))))):A5)) (0,ep,nx,busy,tells,best,now,sure,ups,held,[],())=some (ep,nx,busy,tells,best,now,sure,ups,held,cls,()):=by
  have key:=E0 (A57 O2 (((((now,sure),(ep,(nx,ups))),held),(cls,(busy,(asks,(tells,best))))):A5)) (fun i=>((i:Int),ep,nx,busy,tells,best,now,sure,ups,held,cls.take i,())) cls.length (ep,nx,busy,tells,best,now,sure,ups,held,cls,()) (fun i hi=>?_) ?_
  ·simpa using key
  ·have g1:(i:Int)<(cls.length:Int):=by omega
   have g2:(0:Int)<=(i:Int):=by omega
   have hf:=h3 _ (List.getElem_mem hi);simp only [A57,A0 g1,A0 g2,cond_true];rw [C7 (k:=B3) (xs:=cls) hi,C3G _ (by omega)];simp only [bO];rw [A0 (by simp;omega),A0 (by simp;omega),w64 (by omega) (by omega),List.take_succ_eq_append_getElem hi];rfl
  ·simp [A57]
 rw [k1];simp only [bO];have key:=E0 (A9Q (((((now,sure),(ep,(nx,ups))),held),(cls,(busy,(asks,(tells,best))))):A5)) (fun i=>((i:Int),ep,nx,busy,tells,best,now,sure,ups,held,cls,asks.take i,())) asks.length ((((((now,sure),(ep,(nx,ups))),held),(cls,(busy,(asks,(tells,best))))):A5),()) (fun i hi=>?_) ?_
 ·simpa using key
 ·have g1:(i:Int)<(asks.length:Int):=by omega
  have g2:(0:Int)<=(i:Int):=by omega
  have hf:=h6 _ (List.getElem_mem hi);simp only [A9Q,A0 g1,A0 g2,cond_true];rw [C7 (k:=E5) (xs:=asks) hi,A0 (by simp;omega),A0 (by simp;omega),A0 (by simp;omega),A0 (by simp;omega),w64 (by omega) (by omega),List.take_succ_eq_append_getElem hi];rfl
 ·simp [A9Q]
structure D8j (st:A6):Prop where
 sd:A5D st.1
 n:st.2.2.2.length<=20
 up:∀ u∈st.2.2.2,u.1.size<=64/\Byt u.2.2.1/\List.length u.2.2.1<=1000000/\(@LE.le Int _ (List.length u.2.2.1:Int) u.2.1/\@LE.le Int _ u.2.1 1000000)
theorem E3W{st:A6}(h:GoodS st)(hw:C6H st):D8j st:=by
 have hU:=B9W h;have hS:=A4h h.dk;have hwant:=B6i (N:=1000000) h.up hw (fun u hu=>by cases hu);refine ⟨hS.1,by have:=hU.2.1;omega,fun u hu=>?_⟩;have hg:=hU.2.2 u hu;have h1:=hg.1;have h2:@LE.le Int _ u.2.1 1000000:=hwant u hu;have h3:=hg.2.2.1;exact ⟨by omega,hg.2.2.2,by omega,h1,h2⟩
theorem E50{k:Nat}{st:A6}(h:B26 k st):D8j st:=by
 obtain ⟨c,hd⟩:=h.dur;exact E3W hd.g h.wn
theorem E8v{k:Nat}{sv:B9}(h:SvI k sv):D8j sv.1:=by
 obtain ⟨c,hd⟩:=h.dur;exact E3W hd.g h.wn
theorem F0C{st:A6}(h:D8j st):A8v st:=⟨h.sd,by have:=h.n;omega,fun u hu=>by have:=(h.up u hu).2.2.1;omega⟩
theorem E51(c:B6)(n:Int)(hc:Cur c)(hn:0<n/\n<=1000):∃ y c',W5 c n=some (y,c',())/\D8j y/\Cur c':=by
 obtain ⟨st,c1,q1,h1,hc1⟩:=E1C c n hc hn;have ha:=E50 h1;obtain ⟨k,c2,q2,hc2,k0,k1⟩:=G8 c1 12 hc1 (by omega);have hl:=ha.n;simp only [W5,A3H,q1,q2,bO];cases decide (k=0) with
 | true=>
  obtain ⟨m,c3,q3,hc3,_⟩:=Q4 c2 [(-1),10000,10001,0] hc2 (by simp);simp only [cond_true,q3,bO];exact ⟨_,_,rfl,⟨ha.sd,ha.n,ha.up⟩,hc3⟩
 | false=>
 simp only [cond_false];cases decide (k=1) with
 | true=>exact ⟨_,_,rfl,⟨ha.sd,ha.n,ha.up⟩,hc2⟩
 | false=>
 simp only [cond_false];cases decide (k=2) with
 | true=>
  obtain ⟨cd,hdr⟩:=h1.dur;have hl10:=(B9W hdr.g).2.1;simp only [cond_true];rw [A0 (by simp;omega),A0 (by simp;omega)];refine ⟨_,_,rfl,⟨ha.sd,by simp only [List.length_append,List.length_cons,List.length_nil];omega,fun u hu=>?_⟩,hc2⟩;rcases List.mem_append.1 hu with hu | hu
  ·exact ha.up u hu
  ·rw [List.mem_singleton.1 hu];exact ⟨by decide,T9,Nat.zero_le _,by decide,by decide⟩
 | false=>
 simp only [cond_false];cases decide (k=3) with
 | true=>
  simp only [cond_true];by_cases hz:(st.1.1.length:Int)>0
  ·rw [A0 hz];exact ⟨_,_,rfl,⟨⟨B9O ha.sd.1 0 (by decide),ha.sd.2⟩,ha.n,ha.up⟩,hc2⟩
  ·rw [A4 hz];exact ⟨_,_,rfl,ha,hc2⟩
 | false=>exact ⟨_,_,rfl,ha,hc2⟩
theorem E52(c:B6)(n:Int)(hc:Cur c)(hn:0<n/\n<=1000):∃ y c',W6 c n=some (y,c',())/\D8j y.1/\y.2.length<=201/\Cur c':=by
 obtain ⟨sv,c1,q1,h1,hc1⟩:=E1L c n hc hn;have ha:=E8v h1;have hl:=h1.hl;obtain ⟨k,c2,q2,hc2,k0,k1⟩:=G8 c1 12 hc1 (by omega);simp only [W6,A3I,q1,q2,bO];cases decide (k=0) with
 | true=>
  obtain ⟨st,c3,q3,hst,hc3⟩:=E51 c2 5 hc2 (by omega);simp only [cond_true,q3,bO];exact ⟨_,_,rfl,hst,by simp only;omega,hc3⟩
 | false=>
 simp only [cond_false];cases decide (k=1) with
 | true=>
  obtain ⟨m,c3,q3,hc3,_⟩:=Q4 c2 [0,200] hc2 (by simp);simp only [cond_true,q3,bO];rw [A0 (by simp;omega),A0 (by simp;omega)];exact ⟨_,_,rfl,ha,by simp only [List.length_append,List.length_cons,List.length_nil];omega,hc3⟩
 | false=>exact ⟨_,_,rfl,ha,by omega,hc2⟩
theorem E53(c:B6)(hc:Cur c):∃ r c',B1w c=some (r,c',())/\Cur c'/\r.2.1.size<=64/\(-9223372036854775808<=r.2.2/\r.2.2<=9223372036854775807):=by
 obtain ⟨r,c1,q1,h1,r0,r1,r2⟩:=E1K c hc;obtain ⟨k,c2,q2,h2,_⟩:=G8 c1 10 h1 (by omega);simp only [B1w,C3C,q1,q2,bO];cases decide (k=0) with
 | true=>
  obtain ⟨m,c3,q3,h3,_⟩:=Q4 c2 [0,7,2] h2 (by simp);simp only [cond_true,q3,bO];exact ⟨_,_,rfl,h3,r2,by simp only;omega⟩
 | false=>
 simp only [cond_false];cases decide (k=1) with
 | true=>
  obtain ⟨s,c3,q3,h3,hs⟩:=B9I c2 [(⟨#[]⟩:X0),(⟨#[65]⟩:X0),(⟨#[110,105,110,101,98,121,116,101,115]⟩:X0),(⟨#[97,32,98]⟩:X0)] h2 (by simp);have hsz:s.size<=64:=by
   simp only [List.mem_cons,List.not_mem_nil,or_false] at hs;rcases hs with rfl | rfl | rfl | rfl<;>decide
  simp only [cond_true,q3,bO];exact ⟨_,_,rfl,h3,hsz,by simp only;omega⟩
 | false=>
 simp only [cond_false];cases decide (k=2) with
 | true=>
  obtain ⟨m,c3,q3,h3,hm⟩:=Q4 c2 [(-1),1000000001,4294967296,3] h2 (by simp);have hm2:-1<=m/\m<=4294967296:=by
   simp only [List.mem_cons,List.not_mem_nil,or_false] at hm;omega
  simp only [cond_true,q3,bO];exact ⟨_,_,rfl,h3,r2,by simp only;omega⟩
 | false=>exact ⟨_,_,rfl,h2,r2,by omega⟩
theorem E1S(c:B6)(hc:Cur c):∃ r c',A9l c=some (r,c',())/\Cur c':=by
 obtain ⟨m,c1,q1,h1,_⟩:=Q4 c [200,201,204,404,409,100,599] hc (by simp);obtain ⟨n,c2,q2,h2,_⟩:=Q4 c1 [(-1),0,24,1000000000] h1 (by simp);simp only [A9l,B9B,q1,q2,bO];exact ⟨_,_,rfl,h2⟩
structure BW (j:Nat) (w:A5):Prop where
 st:D8j w.1.1
 he:w.1.2.length<=300+j
 cl:w.2.1.length<=10
 co:∀ c∈w.2.1,c.1.size<=64/\Byt c.2.1/\c.2.1.length<=1000+j
 bu:w.2.2.1.length<=10+j
 as_:w.2.2.2.1.length<=100+j
 ao:∀ a∈w.2.2.2.1,a.2.1.2.1.size<=64/\Byt a.2.2/\a.2.2.length<=1000
 te:w.2.2.2.2.1.length<=100+j
 be_:w.2.2.2.2.2.length<=10
theorem E9N{k:Nat}{w:A5}(h:WIw k w):BW 0 w:=by
 obtain ⟨c,uc,h⟩:=h;obtain ⟨hR,hS,hok⟩:=D6P h;have hU:=hR.up;have hn:=h.n6;have hlb:=h.lb;have hlt:=h.lt;have h60:=h.la;have h6:=h.l6;have h200:=h.lh;refine ⟨⟨hR.dk,by have:=hU.2.1;omega,fun u hu=>?_⟩,by omega,by omega,fun x hx=>?_,by omega,by omega,fun a ha=>?_,by omega,by omega⟩
 ·obtain ⟨i,a,h1,_,h3⟩:=h.oku u hu;have h4:=h3.len;have h5:=(A2w (h.cl i a h1)).2.1;have hg:=hU.2.2 u hu;have h8:=hg.2.2.1;have h9:@Eq Int u.2.1 (a.2.1.length:Int):=h3.want;have h10:=hg.1;exact ⟨by omega,hg.2.2.2,by omega,h10,by rw [h9];omega⟩
 ·obtain ⟨i,hi,rfl⟩:=List.getElem_of_mem hx;have hg:=h.cl i _ (List.getElem?_eq_getElem hi);obtain ⟨hid,h4,_⟩:=A2w hg;have:=D1H hid;exact ⟨by omega,hg.byt,by omega⟩
 ·obtain ⟨i,cl,g1,_,g3⟩:=h.ask a ha;obtain ⟨q1,q2,q3⟩:=F08 (h.cl i cl g1) g3;obtain ⟨k1,k2,k3⟩:=D1b ⟨(h.cl i cl g1).ok,(h.cl i cl g1).byt⟩ g3;have:=(D6R q1).1;exact ⟨by omega,k2,by omega⟩
theorem E9O{j:Nat}(hj:j<=1000){w:A5}(h:BW j w):CpS w:=by
 have h1:=h.he;have h2:=h.cl;have h3:=h.bu;have h4:=h.as_;have h5:=h.te;have h6:=h.be_;exact ⟨⟨F0C h.st,by omega⟩,by omega,fun c hc=>by have:=(h.co c hc).2.2;omega,by omega,by omega,fun a ha=>by have:=(h.ao a ha).2.2;omega,by omega,by omega⟩
theorem F0i{j:Nat}(hj:j<=1000){w:A5}(h:BW j w):Sm 1048576 A6t w/\F1E w:=by
 obtain ⟨⟨st,held⟩,cls,busy,asks,tells,best⟩:=w;obtain ⟨h0,h1,h2,hco,h3,h4,hao,h5,h6⟩:=h;simp only at h0 h1 h2 hco h3 h4 hao h5 h6;have hn:=h0.n;refine ⟨⟨⟨⟨⟨⟨h0.sd.1.1,fun x hx=>h0.sd.1.2 x hx⟩,⟨h0.sd.2.1,fun x hx=>h0.sd.2.2 x hx⟩⟩,trivial,trivial,⟨by show List.length st.2.2.2<=_;omega,fun u hm=>?_⟩⟩,⟨by show held.length<=_;omega,fun x _=>⟨trivial,trivial,trivial⟩⟩⟩,⟨by show cls.length<=_;omega,fun x hx=>?_⟩,⟨by show busy.length<=_;omega,fun _ _=>trivial⟩,⟨by show asks.length<=_;omega,fun x hx=>?_⟩,⟨by show tells.length<=_;omega,fun x _=>⟨trivial,trivial,trivial⟩⟩,⟨by show best.length<=_;omega,fun _ _=>trivial⟩⟩,fun u hm=>(h0.up u hm).2.1,fun x hx=>(hco x hx).2.1⟩
 ·obtain ⟨g1,_,g2,_⟩:=h0.up u hm;exact ⟨by show u.1.size<=_;omega,trivial,⟨by show List.length u.2.2.1<=_;omega,fun _ _=>trivial⟩,trivial⟩
 ·obtain ⟨g1,_,g2⟩:=hco x hx;exact ⟨by show x.1.size<=_;omega,⟨by show x.2.1.length<=_;omega,fun _ _=>trivial⟩,trivial,trivial⟩
 ·obtain ⟨g1,_,g2⟩:=hao x hx;exact ⟨trivial,⟨trivial,by show x.2.1.2.1.size<=_;omega,trivial⟩,⟨by show List.length x.2.2<=_;omega,fun _ _=>trivial⟩⟩
theorem E3a{j k:Nat}(hj:j<=k){w:A5}(h:BW j w):BW k w:=
 ⟨h.st,by have:=h.he;omega,h.cl,fun c hc=>by (obtain ⟨a1,a2,a3⟩:=h.co c hc;exact ⟨a1,a2,by omega⟩),by have:=h.bu;omega,by have:=h.as_;omega,h.ao,by have:=h.te;omega,h.be_⟩
theorem E1T(c:B6)(w:A5){j:Nat}(hj:j<=900)(hc:Cur c)(h:BW j w):∃ y c',T7 c w=some (y,c',())/\BW (j+1) y/\Cur c':=by
 have hcp:=B9h (E9O (by omega) h);simp only [T7,A2h,hcp,bO];have hm:=E3a (Nat.le_succ j) h;have h1:=h.he;have h2:=h.cl;have h3:=h.bu;have h4:=h.as_;have h5:=h.te;have h6:=h.be_;obtain ⟨k,c1,q1,hc1,hk⟩:∃ (k:Int) (c1:B6),(bif decide ((w.2.1.length:Int)>0) then A3 (C0 c (w.2.1.length:Int)) fun c16=>some (c16.1,c16.2.1.1,c16.2.1.2.1,c16.2.1.2.2,()) else some (0,c.1,c.2.1,c.2.2,()))=some (k,c1.1,c1.2.1,c1.2.2,())/\Cur c1/\((w.2.1.length:Int)>0->0<=k/\k<(w.2.1.length:Int)):=by
  by_cases hz:(w.2.1.length:Int)>0
  ·obtain ⟨k,c1,q,hc1,k0,k1⟩:=G8 c (w.2.1.length:Int) hc (by omega);rw [A0 hz,q];exact ⟨k,c1,rfl,hc1,fun _=>by omega⟩
  ·rw [A4 hz];exact ⟨0,c,rfl,hc,fun hx=>absurd hx hz⟩
 rw [q1];simp only [bO];obtain ⟨m,c2,q2,hc2,_⟩:=G8 c1 9 hc1 (by omega);have q2':C0 (c1.1,(c1.2.1,c1.2.2)) 9=_:=q2;rw [q2'];simp only [bO];cases decide (m=0) with
 | true=>
  obtain ⟨sv,c3,q3,hsv,hl,hc3⟩:=E52 c2 6 hc2 (by omega);simp only [cond_true,q3,bO];exact ⟨_,_,rfl,{hm with st:=hsv,he:=by simp only;omega},hc3⟩
 | false=>
 simp only [cond_false];cases decide (m=1) with
 | true=>
  simp only [cond_true];by_cases hz:(w.2.1.length:Int)>0
  ·obtain ⟨k0,k1⟩:=hk hz;obtain ⟨v,c3,q3,hc3,_⟩:=Q4 c2 [0,5,6,7] hc2 (by simp);obtain ⟨i,rfl⟩:∃ i:Nat,k=(i:Int):=⟨k.toNat,by omega⟩;have hi:i<w.2.1.length:=by omega
   rw [A0 hz,q3];simp only [cond_true,bO];rw [A0 k0,A0 k1,C7 (k:=B3) (xs:=w.2.1) hi];refine ⟨_,_,rfl,{hm with cl:=by simp only [List.length_set];exact h.cl,co:=fun x hx=>?_},hc3⟩;have hci:=hm.co _ (List.getElem_mem hi);rcases D07 hx with hx | hx
   ·exact hm.co x hx
   ·rw [hx];exact hci
  ·rw [A4 hz];exact ⟨_,_,rfl,hm,hc2⟩
 | false=>
 simp only [cond_false];cases decide (m=2) with
 | true=>
  simp only [cond_true];by_cases hz:(w.2.1.length:Int)>0
  ·obtain ⟨k0,k1⟩:=hk hz;obtain ⟨i,rfl⟩:∃ i:Nat,k=(i:Int):=⟨k.toNat,by omega⟩;have hi:i<w.2.1.length:=by omega
   have hci:=h.co _ (List.getElem_mem hi);rw [A0 hz,A0 k0,A0 k1,C7 (k:=B3) (xs:=w.2.1) hi,A0 (by simp;omega),A0 (by simp;omega),A0 trivial];refine ⟨_,_,rfl,{hm with cl:=by simp only [List.length_set];exact h.cl,co:=fun x hx=>?_},hc2⟩;rcases D07 hx with hx | hx
   ·exact hm.co x hx
   ·rw [hx];exact ⟨hci.1,D02 hci.2.1 (fun y hy=>by rw [List.mem_singleton.1 hy];omega),by simp only [List.length_append,List.length_cons,List.length_nil];omega⟩
  ·rw [A4 hz];exact ⟨_,_,rfl,hm,hc2⟩
 | false=>
 simp only [cond_false];cases decide (m=3) with
 | true=>
  simp only [cond_true];by_cases hz:(w.2.2.2.2.2.length:Int)>0
  ·obtain ⟨v,c3,q3,hc3,_⟩:=Q4 c2 [100,1,(-1)] hc2 (by simp);rw [A0 hz,q3];simp only [cond_true,bO];exact ⟨_,_,rfl,{hm with be_:=by simp only [List.length_set];exact h.be_},hc3⟩
  ·rw [A4 hz];exact ⟨_,_,rfl,hm,hc2⟩
 | false=>
 simp only [cond_false];cases decide (m=4) with
 | true=>
  simp only [cond_true];rw [A0 (by simp;omega),A0 (by simp;omega)];exact ⟨_,_,rfl,{hm with bu:=by simp only [List.length_append,List.length_cons,List.length_nil];omega},hc2⟩
 | false=>
 simp only [cond_false];cases decide (m=5) with
 | true=>
  obtain ⟨who,c3,q3,hc3,_⟩:=G8 c2 4 hc2 (by omega);obtain ⟨r,c4,q4,hc4,r1,_⟩:=E53 c3 hc3;simp only [cond_true,q3,q4,bO];rw [A0 (by simp;omega),A0 (by simp;omega)];refine ⟨_,_,rfl,{hm with as_:=by simp only [List.length_append,List.length_cons,List.length_nil];omega,ao:=fun x hx=>?_},hc4⟩;rcases List.mem_append.1 hx with hx | hx
  ·exact h.ao x hx
  ·rw [List.mem_singleton.1 hx];exact ⟨r1,T9,Nat.zero_le _⟩
 | false=>
 simp only [cond_false];cases decide (m=6) with
 | true=>
  obtain ⟨who,c3,q3,hc3,_⟩:=G8 c2 4 hc2 (by omega);obtain ⟨r,c4,q4,hc4⟩:=E1S c3 hc3;simp only [cond_true,q3,q4,bO];rw [A0 (by simp;omega),A0 (by simp;omega)];exact ⟨_,_,rfl,{hm with te:=by simp only [List.length_append,List.length_cons,List.length_nil];omega},hc4⟩
 | false=>exact ⟨_,_,rfl,hm,hc2⟩
@[reducible] def tI(w:A5):Int×Int×List X0×List X0×List TUp×List C1×List A8×List Bool×List M6×List C1×List Int×Unit:=
 (w.1.1.2.1,w.1.1.2.2.1,w.1.1.1.1,w.1.1.1.2,w.1.1.2.2.2,w.1.2,w.2.1,w.2.2.1,w.2.2.2.1,w.2.2.2.2.1,w.2.2.2.2.2,())
@[reducible] def tS(w:A5):List X0×List X0×Int×Int×List TUp×List C1×List A8×List Bool×List M6×List C1×List Int×Unit:=
 (w.1.1.1.1,w.1.1.1.2,w.1.1.2.1,w.1.1.2.2.1,w.1.1.2.2.2,w.1.2,w.2.1,w.2.2.1,w.2.2.2.1,w.2.2.2.2.1,w.2.2.2.2.2,())
theorem F0D(w:A5)(e:V2):(evF w e).2.2.1.length=w.2.1.length:=by
 unfold evF B3J A7U B3K B28 C4U A7V
 repeat' split
 all_goals first | rfl | exact List.length_set | exact List.length_map _
theorem D3l(c:A8)(r:S9):(A24 c r).1=c.1/\(A24 c r).2.1=c.2.1:=by
 unfold A24 hear far
 repeat' split
 all_goals exact ⟨rfl,rfl⟩
def D8k(cls:List A8):Prop:=∀ (i j:Nat) (a b:A8),cls[i]? = some a->cls[j]? = some b->a.1=b.1->i=j
theorem D8l(w:A5)(h:D8I w)(hok:L4 w=some (true,()))(j0 i0:Nat)(hj0:j0<i0)(hi0:i0<w.2.1.length):(w.2.1[j0]'(by omega)).1≠(w.2.1[i0]).1:=by
 intro heq;have hl:=h.1;have bad:∃ z,C3 (I4 ((i0:Int),()) w) (0,())=some z/\z=.inr (.inr (false,())):=by
  refine P0 (I4 ((i0:Int),()) w) (fun l=>((j0:Int)-l.1).toNat) (fun l=>0<=l.1/\l.1<=(j0:Int)) (fun z=>z=.inr (.inr (false,()))) (fun l h0=>?_) (0,()) (by simp);obtain ⟨l1,u⟩:=l;obtain ⟨h0,h1⟩:=h0;simp only at h0 h1;obtain ⟨j,rfl⟩:∃ j:Nat,l1=(j:Int):=⟨l1.toNat,by omega⟩;simp only [I4];rw [A0 (show (j:Int)<(i0:Int) by omega),A0 h0,A0 (show (j:Int)<(w.2.1.length:Int) by omega),A0 (show (0:Int)<=(i0:Int) by omega),A0 (show (i0:Int)<(w.2.1.length:Int) by omega)];simp only [cond_true];rw [w64 (n:=(j:Int)+1) (by omega) (by omega)];by_cases hjj:j=j0
  ·subst hjj;rw [C7 (k:=B3) (xs:=w.2.1) (show j<w.2.1.length by omega),C7 (k:=B3) (xs:=w.2.1) hi0,heq,beq_self_eq_true];exact .inr ⟨_,rfl,rfl⟩
  ·cases ((rd B3 w.2.1 (j:Int)).1.toList == (rd B3 w.2.1 (i0:Int)).1.toList)
   ·exact .inl ⟨_,rfl,⟨by simp only;omega,by simp only;omega⟩,by simp only;omega⟩
   ·exact .inr ⟨_,rfl,rfl⟩
 obtain ⟨zb,eb,hb⟩:=bad;obtain ⟨z,e,hz⟩:=P0 (F7 G3 w) (fun l=>((i0:Int)-l.1).toNat) (fun l=>0<=l.1/\l.1<=(i0:Int)) (fun z=>z=.inr (false,())) (fun l hl=>by
  obtain ⟨l1,u⟩:=l;obtain ⟨h0,h1⟩:=hl;simp only at h0 h1;obtain ⟨i,rfl⟩:∃ i:Nat,l1=(i:Int):=⟨l1.toNat,by omega⟩;have hi':i<w.2.1.length:=by omega
  have hsz:(rd B3 w.2.1 (i:Int)).1.size<=maxLen:=by
   rw [C7 (k:=B3) (xs:=w.2.1) hi'];exact h.2 _ (List.getElem_mem hi')
  simp only [F7];rw [A0 (show (i:Int)<(w.2.1.length:Int) by omega),A0 h0,A1k _ hsz];simp only [cond_true,A3];cases G6 (rd B3 w.2.1 (i:Int)) with
  | false=>exact .inr ⟨_,rfl,rfl⟩
  | true=>
   simp only [Bool.not_true,cond_false];by_cases hii:i=i0
   ·subst hii;rw [eb,hb];exact .inr ⟨_,rfl,rfl⟩
   ·obtain ⟨z,e,hz⟩:=B9P w h i hi';rw [e];rcases hz with rfl | rfl
    ·exact .inl ⟨_,rfl,⟨by simp only;omega,by simp only;omega⟩,by simp only;omega⟩
    ·exact .inr ⟨_,rfl,rfl⟩) (0,()) (by simp)
 subst hz;simp only [L4,A1v,e,B8] at hok;injection hok with hok;injection hok with hok;cases hok
theorem E1U(w:A5)(hs:E73 w)(hok:O3 w=some (true,())):D8k w.2.1:=by
 obtain ⟨h1,h2,h3,h4,h5⟩:=hs;obtain ⟨bs,es,ei,hbs⟩:=B3F w.1 h1 h2;obtain ⟨bc,cs,ci,hbc⟩:=C3I w h3;have no:∀ {x:Bool},some (x,())=some (true,())->x=true:=fun h=>by injection h with h;injection h
 have hc:L4 w=some (true,()):=by
  simp only [O3,A6O,es,cs,A3] at hok;cases bs with
  | false=>exact absurd (no hok) (by simp)
  | true=>
   cases bc with
   | false=>exact absurd (no hok) (by simp)
   | true=>exact cs
 intro i j a b ha hb hab;have hi:=E1N ha;have hj:=E1N hb;rw [List.getElem?_eq_getElem hi] at ha;rw [List.getElem?_eq_getElem hj] at hb;injection ha with ha
 injection hb with hb
 subst ha;subst hb;rcases Nat.lt_trichotomy i j with h | h | h
 ·exact absurd hab (D8l w h3 hc i j h hj)
 ·exact h
 ·exact absurd hab.symm (D8l w h3 hc j i h hi)
theorem E7N{l l':List A8}(h:D8k l)(e:l'.map (·.1)=l.map (·.1)):D8k l':=by
 have key:∀ (i:Nat) (a:A8),l'[i]? = some a->∃ b,l[i]? = some b/\b.1=a.1:=fun i a ha=>by
  have h1:(l'.map (·.1))[i]? = some a.1:=by rw [List.getElem?_map,ha];rfl
  rw [e,List.getElem?_map] at h1;cases hb:l[i]? with
  | none=>rw [hb] at h1;cases h1
  | some b=>
   rw [hb] at h1;injection h1 with h1
   exact ⟨b,rfl,h1⟩
 intro i j a b ha hb hab;obtain ⟨a',h1,h2⟩:=key i a ha;obtain ⟨b',h3,h4⟩:=key j b hb;exact h i j a' b' h1 h3 (by rw [h2,h4,hab])
theorem D1e{l:List A8}{i:Nat}{v:A8}(hi:i<l.length)(hv:v.1=(l[i]).1):(l.set i v).map (·.1)=l.map (·.1):=by
 apply List.ext_getElem?;intro n;rw [List.getElem?_map,List.getElem?_map,List.getElem?_set];by_cases hn:i=n
 ·subst hn;rw [if_pos rfl,if_pos hi,List.getElem?_eq_getElem hi];simp only [Option.map];rw [hv]
 ·rw [if_neg hn]
theorem C7i(c:A8):(H4 c).1=c.1:=by
 unfold H4;split<;>rfl
theorem E7O{w:A5}(h:RWw w)(j:Int):(B28 w j).2.2.1.map (·.1)=w.2.1.map (·.1):=by
 unfold B28;split
 ·rename_i hc;split
  ·obtain ⟨q,hq⟩:∃ q:Nat,j=(q:Int):=⟨j.toNat,by omega⟩;subst hq;have hql:q<w.2.2.2.2.1.length:=by omega
   have hh:=h.tl _ (List.getElem_mem hql);rw [C7 (k:=A9) (xs:=w.2.2.2.2.1) hql];obtain ⟨_,g2,g3⟩:=hh;obtain ⟨i,hi⟩:∃ i:Nat,(w.2.2.2.2.1[q]).1=(i:Int):=⟨(w.2.2.2.2.1[q]).1.toNat,by omega⟩;rw [hi] at g3 ⊢;have hil:i<w.2.1.length:=by omega
   rw [C7 (k:=B3) (xs:=w.2.1) hil];exact D1e hil (D3l _ _).1
  ·rfl
 ·rfl
theorem E8w(w:A5)(j:Int):(C4U w j).2.2.1.map (·.1)=w.2.1.map (·.1):=by
 unfold C4U;split
 ·rename_i hc;obtain ⟨i,hi⟩:∃ i:Nat,j=(i:Int):=⟨j.toNat,by omega⟩;subst hi;have hil:i<w.2.1.length:=by omega
  rw [C7 (k:=B3) (xs:=w.2.1) hil];exact D1e hil (C7i _)
 ·rfl
theorem E54(w:A5)(l:List Bool):(A7V w l).2.2.1.map (·.1)=w.2.1.map (·.1):=by
 unfold A7V;split
 ·show (w.2.1.map H4).map (·.1)=_;rw [List.map_map];exact List.map_congr_left fun c _=>C7i c
 ·rfl
theorem F0E{w:A5}(h:RWw w)(e:V2):(evF w e).2.2.1.map (·.1)=w.2.1.map (·.1):=by
 have h1:=E7O h e.2.1;have h2:=E8w w e.2.1;have h3:=E54 w e.2.2;have h4:(B3J w e.2.1).2.2.1.map (·.1)=w.2.1.map (·.1):=by unfold B3J;split<;>rfl
 have h5:(A7U w e.2.1).2.2.1.map (·.1)=w.2.1.map (·.1):=by unfold A7U;split<;>rfl
 have h6:(B3K w).2.2.1.map (·.1)=w.2.1.map (·.1):=by unfold B3K;split<;>rfl
 unfold evF
 repeat' split
 all_goals first | assumption | rfl
theorem E55(w:A5)(j:Int):(B28 w j).2.2.2.2.2.2.length=w.2.2.2.2.2.length/\∀ i:Nat,rd (.int .i64) w.2.2.2.2.2 (i:Int)<=rd (.int .i64) (B28 w j).2.2.2.2.2.2 (i:Int):=by
 unfold B28;split
 ·split
  ·refine ⟨List.length_set,fun i=>?_⟩;generalize hq:(rd A9 w.2.2.2.2.1 j)=q;show w.2.2.2.2.2.getD _ _<=(w.2.2.2.2.2.set _ (E1R (w.2.2.2.2.2.getD _ _) _)).getD _ _;simp only [List.getD_eq_getElem?_getD,List.getElem?_set,Int.toNat_natCast];by_cases hn:q.1.toNat=i
   ·subst hn;by_cases hl:q.1.toNat<w.2.2.2.2.2.length
    ·rw [if_pos rfl,if_pos hl];simp only [Option.getD_some];unfold E1R;by_cases hm:q.2.2>(w.2.2.2.2.2[q.1.toNat]?).getD (zd (.int .i64))
     ·rw [A0 hm];exact Int.le_of_lt hm
     ·rw [A4 hm];exact Int.le_refl _
    ·rw [if_pos rfl,if_neg hl,List.getElem?_eq_none (by omega)];exact Int.le_refl _
   ·rw [if_neg hn];exact Int.le_refl _
  ·exact ⟨rfl,fun i=>Int.le_refl _⟩
 ·exact ⟨rfl,fun i=>Int.le_refl _⟩
theorem E90(w:A5)(e:V2):(evF w e).2.2.2.2.2.2.length=w.2.2.2.2.2.length/\∀ i:Nat,rd (.int .i64) w.2.2.2.2.2 (i:Int)<=rd (.int .i64) (evF w e).2.2.2.2.2.2 (i:Int):=by
 have triv:∀ v:A5,v.2.2.2.2.2=w.2.2.2.2.2->v.2.2.2.2.2.length=w.2.2.2.2.2.length/\∀ i:Nat,rd (.int .i64) w.2.2.2.2.2 (i:Int)<=rd (.int .i64) v.2.2.2.2.2 (i:Int):=fun v hv=>by rw [hv];exact ⟨rfl,fun i=>Int.le_refl _⟩
 have h1:=E55 w e.2.1;have h2:(C4U w e.2.1).2.2.2.2.2.2=w.2.2.2.2.2:=by unfold C4U;split<;>rfl
 have h3:(A7V w e.2.2).2.2.2.2.2.2=w.2.2.2.2.2:=by unfold A7V;split<;>rfl
 have h4:(B3J w e.2.1).2.2.2.2.2.2=w.2.2.2.2.2:=by unfold B3J;split<;>rfl
 have h5:(A7U w e.2.1).2.2.2.2.2.2=w.2.2.2.2.2:=by unfold A7U;split<;>rfl
 have h6:(B3K w).2.2.2.2.2.2=w.2.2.2.2.2:=by unfold B3K;split<;>rfl
 unfold evF
 repeat' split
 all_goals first | exact h1 | exact triv _ (by assumption) | exact triv _ rfl
theorem E1V{w:A5}(h:RWw w)(hd:D8k w.2.1):L4 w=some (true,()):=by
 have hn:=h.n6;have hlb:=h.lb;have hlt:=h.lt;have inner:∀ i,i<w.2.1.length->C3 (I4 ((i:Int),()) w) (0,())=some (.inl (((i+1:Nat):Int),())):=fun i hi=>by
  refine E0 _ (fun j=>((j:Int),())) i _ (fun j hj=>?_) ?_
  ·have hne:¬ ((rd B3 w.2.1 (j:Int)).1.toList == (rd B3 w.2.1 (i:Int)).1.toList)=true:=fun e=>by
    simp only [beq_iff_eq] at e;have e2:=D05 e;rw [C7 (k:=B3) (xs:=w.2.1) hi,C7 (k:=B3) (xs:=w.2.1) (show j<w.2.1.length by omega)] at e2;have:=hd j i _ _ (List.getElem?_eq_getElem (show j<w.2.1.length by omega)) (List.getElem?_eq_getElem hi) e2;omega
   simp only [I4];rw [A0 (show (j:Int)<(i:Int) by omega),A0 (show (0:Int)<=(j:Int) by omega),A0 (show (j:Int)<(w.2.1.length:Int) by omega),A0 (show (0:Int)<=(i:Int) by omega),A0 (show (i:Int)<(w.2.1.length:Int) by omega),Bool.eq_false_iff.2 hne,w64 (by omega) (by omega)];rfl
  ·simp only [I4];rw [A4 (by omega),w64 (by omega) (by omega)];rfl
 simp only [L4,A1v];have key:=E0 (F7 G3 w) (fun j=>((j:Int),())) w.2.1.length (.inl ()) (fun i hi=>?_) ?_
 ·have key':C3 (F7 G3 w) (0,())=_:=key;rw [key'];simp only [B8];rw [A0 (by omega),A0 (by omega),A0 (by omega)];rfl
 ·have hg:=h.cl _ (List.getElem_mem hi);have hr:=C7 (k:=B3) (xs:=w.2.1) hi;simp only [F7];rw [A0 (show (i:Int)<(w.2.1.length:Int) by omega),A0 (show (0:Int)<=(i:Int) by omega),hr,A1k _ (A9u hg),hg.1,inner i hi];rfl
 ·simp only [F7];rw [A4 (by omega)];rfl
theorem D8m{n:Nat}(hn:n<=6){l:List C1}(h:∀ x∈l,hOk n x):A27 n l=true:=by
 refine List.all_eq_true.2 fun i hi=>?_
 have hi:=List.mem_range.1 hi;rw [C7 (k:=A9) (xs:=l) hi];obtain ⟨h1,h2,h3⟩:=h _ (List.getElem_mem hi);simp only [D1G,Bool.and_eq_true,decide_eq_true_eq];exact ⟨h1,h2,by omega⟩
theorem E1W{w:A5}(h:RWw w)(hd:D8k w.2.1):O3 w=some (true,())/\A1J w=some (true,()):=by
 have hcl:=E1V h hd;obtain ⟨⟨st,held⟩,cls,busy,asks,tells,best⟩:=w;unfold RWw at h;simp only at h;obtain ⟨hR,hS,hok⟩:=B25 h.g;have hn:=h.n6;have h60:=h.la;have h6:=h.l6;have h200:=h.lh;have hcls:D8I (((st,held),(cls,(busy,(asks,(tells,best))))):A5):=⟨by show cls.length<=_;omega,fun x hx=>A9u (h.cl x hx)⟩;have hW:E73 (((st,held),(cls,(busy,(asks,(tells,best))))):A5):=⟨hS.1.1,by show held.length<=_;omega,hcls,⟨by show asks.length<=_;omega,fun a ha=>by
  have:=(D6R (h.ask a ha).1).1;simp only [maxLen];omega⟩,by show tells.length<=_;omega⟩
 obtain ⟨b,e1,e2⟩:=C3J _ hW;have hsv:J5 (st,held)=some (true,()):=by
  simp only [J5,A7G];have key:=E0 (I7 R4 ((st,held):B9)) (fun j=>((j:Int),())) held.length (.inl ()) (fun i hi=>?_) ?_
  ·have key':C3 (I7 R4 ((st,held):B9)) (0,())=_:=key;rw [key'];simp only [B8];rw [A0 (by omega),hok.1];rfl
  ·have g3:=(h.hd _ (List.getElem_mem hi)).1;simp only [I7];rw [A0 (show (i:Int)<(held.length:Int) by omega),A0 (show (0:Int)<=(i:Int) by omega),C7 (k:=A9) (xs:=held) hi,A9m,g3,w64 (by omega) (by omega)];rfl
  ·simp only [I7];rw [A4 (by omega)];rfl
 have hwho:=B4a (((st,held),(cls,(busy,(asks,(tells,best))))):A5) tells (by simp only [maxLen];omega) hcls.1;have hwho2:=B4a (((st,held),(cls,(busy,(asks,(tells,best))))):A5) held (by simp only [maxLen];omega) hcls.1;rw [show A27 (List.length (((st,held),(cls,(busy,(asks,(tells,best))))):A5).2.1) tells=true from D8m hn h.tl] at hwho;rw [show A27 (List.length (((st,held),(cls,(busy,(asks,(tells,best))))):A5).2.1) held=true from D8m hn h.hd] at hwho2;have hs:O3 (((st,held),(cls,(busy,(asks,(tells,best))))):A5)=some (true,()):=by
  simp only [O3,A6O,hsv,hcl,hwho,hwho2,bO];rw [A4 (show ¬ (asks.length:Int)>60 by omega),A4 (show ¬ (tells.length:Int)>60 by omega)];have key:=E0 (S8 A3C E6 (((st,held),(cls,(busy,(asks,(tells,best))))):A5)) (fun j=>((j:Int),())) asks.length (true,()) (fun i hi=>?_) ?_
  ·exact key
  ·obtain ⟨q1,g1,g2,_⟩:=h.ask _ (List.getElem_mem hi);have q2:=(D6R q1).1;simp only [S8];rw [A0 (show (i:Int)<(asks.length:Int) by omega),A0 (show (0:Int)<=(i:Int) by omega),C7 (k:=E5) (xs:=asks) hi,P7,w64 (n:=(cls.length:Int)-1) (by omega) (by omega),A0 (show (0:Int)<=(asks[i]).1/\(asks[i]).1<=(cls.length:Int)-1 by omega),B6b _ (by simp only [maxLen];omega),q1,w64 (by omega) (by omega)];rfl
  ·simp only [S8];rw [A4 (by omega)];rfl
 rw [hs] at e1;injection e1 with e1;injection e1 with e1
 subst e1;exact ⟨hs,e2⟩
theorem E56(c:B6)(w:A5)(h:Cur c)(h1:w.2.1.length<=1000)(h2:w.2.2.2.1.length<=1000)(h3:w.2.2.2.2.1.length<=1000) :
  ∃ e c',A1S c w=some (e,c',())/\Cur c':=by
 obtain ⟨k,c1,q1,hc1,k0,k1⟩:=G8 c 12 h (by omega);simp only [A1S,A7N,q1,bO];obtain ⟨b0,m0⟩:∃ b,(bif decide (k=0) then (some (decide (k=0),()):Option (Bool×Unit)) else bif decide (k=1) then some (decide (k=1),()) else some (decide (k=2),()))=some (b,()):=by
  cases decide (k=0)<;>cases decide (k=1)<;>exact ⟨_,rfl⟩
 rw [m0];simp only [bO];cases b0 with
 | true=>
  obtain ⟨r,c2,q2,hc2,r0,r1⟩:=A4C c1 (w.2.1.length:Int) hc1 (by omega);simp only [cond_true,q2,bO,B8];exact ⟨_,_,rfl,hc2⟩
 | false=>
 simp only [cond_false];obtain ⟨b1,m1⟩:∃ b,(bif decide (k=3) then (some (decide (k=3),()):Option (Bool×Unit)) else bif decide (k=4) then some (decide (k=4),()) else some (decide (k=5),()))=some (b,()):=by
  cases decide (k=3)<;>cases decide (k=4)<;>exact ⟨_,rfl⟩
 rw [m1];simp only [bO];cases b1 with
 | true=>
  obtain ⟨r,c2,q2,hc2,r0,r1⟩:=A4C c1 (IntKind.i64.wrap ((w.2.2.2.1.length:Int)+1)) hc1 (by rw [w64 (by omega) (by omega)];omega);simp only [cond_true,q2,bO,B8];exact ⟨_,_,rfl,hc2⟩
 | false=>
 simp only [cond_false];obtain ⟨b2,m2⟩:∃ b,(bif decide (k=6) then (some (decide (k=6),()):Option (Bool×Unit)) else some (decide (k=7),()))=some (b,()):=by
  cases decide (k=6)<;>exact ⟨_,rfl⟩
 rw [m2];simp only [bO];cases b2 with
 | true=>
  simp only [cond_true,B8];exact ⟨_,_,rfl,hc1⟩
 | false=>
 simp only [cond_false];obtain ⟨b3,m3⟩:∃ b,(bif decide (k=8) then (some (decide (k=8),()):Option (Bool×Unit)) else some (decide (k=9),()))=some (b,()):=by
  cases decide (k=8)<;>exact ⟨_,rfl⟩
 rw [m3];simp only [bO];cases b3 with
 | true=>
  obtain ⟨r,c2,q2,hc2,r0,r1⟩:=A4C c1 (IntKind.i64.wrap ((w.2.2.2.2.1.length:Int)+1)) hc1 (by rw [w64 (by omega) (by omega)];omega);simp only [cond_true,q2,bO,B8];exact ⟨_,_,rfl,hc2⟩
 | false=>
 simp only [cond_false];cases decide (k=10) with
 | true=>
  obtain ⟨r,c2,q2,hc2,r0,r1⟩:=A4C c1 (w.2.1.length:Int) hc1 (by omega);simp only [cond_true,q2,bO,B8];exact ⟨_,_,rfl,hc2⟩
 | false=>
 simp only [cond_false,B8];obtain ⟨z,e,hz⟩:=P0 (A4o I8) (fun l=>(20-l.1).toNat)
  (fun l=>0<=l.1/\l.1<=20/\Cur (l.2.2.2.1,(l.2.2.2.2.1,l.2.2.2.2.2.1))/\(l.2.2.2.2.2.2.1.length:Int)=l.1) (fun z=>Cur z.2.1) (fun l hl=>by
   obtain ⟨g0,g1,g4,g5⟩:=hl;simp only [A4o];by_cases hi:l.1<20
   ·obtain ⟨b,c',q,hc'⟩:=A4g _ 2 g4 (by omega);rw [A0 hi,q];simp only [cond_true,bO];rw [A0 (by simp;omega),A0 (by simp;omega),w64 (by omega) (by omega)];exact .inl ⟨_,rfl,⟨by simp only;omega,by simp only;omega,hc',by simp;omega⟩,by simp only;omega⟩
   ·rw [A4 hi];exact .inr ⟨_,rfl,g4⟩) (0,6,0,c1.1,c1.2.1,c1.2.2,[],()) ⟨by simp,by simp,hc1,rfl⟩
 exact ⟨z.1,z.2.1,e,hz⟩
theorem E7P(a:List Int)(h:a.length<=1048576)(m:Int)(hm:3<=m/\m<=1000):∃ s,B1r a m=some (s,())/\3<=s/\s<=m:=by
 have ht:(a.length:Int).tdiv 12=(a.length:Int) / 12:=Int.tdiv_eq_ediv_of_nonneg (by omega);simp only [B1r,C30,ht];rw [w64 (n:=(a.length:Int) / 12) (by omega) (by omega),w64 (by omega) (by omega)];by_cases h1:3+(a.length:Int) / 12>m
 ·rw [A0 h1];exact ⟨_,rfl,by omega⟩
 ·rw [A4 h1];exact ⟨_,rfl,by omega⟩
theorem E57(c:B6)(n:Int)(hc:Cur c)(hn:0<n/\n<=1000):∃ w c',W7 c n=some (w,c',())/\BW 1 w/\Cur c':=by
 obtain ⟨w,c1,q1,hw,hc1⟩:=E1P c n hc hn;obtain ⟨b,c2,q2,hc2⟩:=A4g c1 8 hc1 (by omega);simp only [W7,A3J,q1,q2,bO];cases b with
 | true=>
  obtain ⟨y,c3,q3,hy,hc3⟩:=E1T c2 w (by omega) hc2 (E9N hw);simp only [cond_true,q3,bO];exact ⟨_,_,rfl,hy,hc3⟩
 | false=>exact ⟨_,_,rfl,E3a (by omega) (E9N hw),hc2⟩
theorem E58(a:List Int)(h:a.length<=1048576):∃ w e,A22 a=some (w,e,())/\BW 1 w:=by
 obtain ⟨c,q,hc⟩:=E6w a h;obtain ⟨s,qs,hs⟩:=E7P a h 30 (by omega);obtain ⟨w,c1,q1,hw,hc1⟩:=E57 c s hc (by omega);obtain ⟨k,c2,q2,hc2,k0,k1⟩:=G8 c1 8 hc1 (by omega);have g2:=hw.cl;have g4:=hw.as_;have g5:=hw.te;simp only [A22,A8r,q,qs,q1,q2,bO];have tail:∀ (kind who:Int) (keep:List Bool) (c:B6),Cur c->∃ e,(A3 (C0 (c.1,(c.2.1,c.2.2)) 8) fun c24=>bif (decide (c24.1=0)) then A3 (C0 c24.2.1 8) fun c28=>some ((w,(c28.1,(who,keep)),()):A5×V2×Unit) else bif (decide (c24.1=1)) then A3 (G5 c24.2.1 [(-1),60,0]) fun c34=>some (w,(kind,(c34.1,keep)),()) else some (w,(kind,(who,keep)),()))=some (w,e,()):=fun kind who keep c hc=>by
  obtain ⟨m,c3,q3,hc3,_⟩:=G8 c 8 hc (by omega);have q3':C0 (c.1,(c.2.1,c.2.2)) 8=_:=q3;rw [q3'];simp only [bO];cases decide (m=0) with
  | true=>
   obtain ⟨m2,c4,q4,hc4,_⟩:=G8 c3 8 hc3 (by omega);rw [q4];exact ⟨_,rfl⟩
  | false=>
  simp only [cond_false];cases decide (m=1) with
  | true=>
   obtain ⟨m2,c4,q4,hc4,_⟩:=Q4 c3 [(-1),60,0] hc3 (by simp);rw [q4];exact ⟨_,rfl⟩
  | false=>exact ⟨_,rfl⟩
 by_cases hz:(w.2.1.length:Int)>0
 ·obtain ⟨e,c3,q3,hc3⟩:=E56 c2 w hc2 (by omega) (by omega) (by omega);rw [A0 hz,q3];simp only [cond_true,bO];obtain ⟨e',he⟩:=tail e.1 e.2.1 e.2.2 c3 hc3;exact ⟨w,e',he,hw⟩
 ·rw [A4 hz];simp only [cond_false,bO];obtain ⟨e',he⟩:=tail k 0 [] c2 hc2;exact ⟨w,e',he,hw⟩
theorem D8n{st:A6}(h:D8j st):A9e st.2.2.2 st.2.2.2=some (true,()):=by
 have hul:=h.n;simp only [A9e,B90,decide_true,Bool.not_true,cond_false];have e:=C1k (A9E A39 st.2.2.2 st.2.2.2) st.2.2.2.length (by simp only [maxLen];omega) (fun _=>true) (fun i hi=>by
  have g1:((i:Int)<(st.2.2.2.length:Int)):=by omega
  have g2:(0:Int)<=(i:Int):=by omega
  have hdl:=(h.up _ (List.getElem_mem hi)).2.2.1;have hb:=D1J st.2.2.2[i].2.2.1 (by simp only [maxLen];omega);simp only [A9E,A0 g1,A0 g2,cond_true,C7 (k:=kUp) (xs:=st.2.2.2) hi,beq_self_eq_true,decide_true,Bool.not_true,cond_false];rw [hb];rfl) (by simp [A9E])
 rw [e];simp
theorem E91{w:A5}(hw:BW 1 w)(e:V2):∃ y b,A7O w e=some (y,b,())/\D0u w e=some (y,b,())/\(b=false->y=w)/\(b=true->y=(evF w e).2/\A1J y=some (true,())):=by
 obtain ⟨hs,hu,hcb⟩:=F0i (by omega) hw;have hsx:Sm 1048576 D67 w:=hs;have hS:=E7B hsx;obtain ⟨b,h1,h2⟩:=C3J w hS;have hc:=E9O (by omega) hw;simp only [A7O,B6R,D0u,E0o,D1d hc,B9h hc,h1,h2,bO];cases b with
 | false=>exact ⟨w,false,rfl,rfl,fun _=>rfl,fun h=>by cases h⟩
 | true=>
  have hr:=E7I w hsx hu hcb (fun a ha=>(hw.ao a ha).2.1) h1;have hd:=E1U w hS h1;obtain ⟨e1,e2⟩:=F0h hr e;simp only [Bool.not_true,cond_false,cond_true,e1,e2,bO];cases hb:(evF w e).1 with
  | false=>
   rw [E4u hb];exact ⟨w,false,rfl,rfl,fun _=>rfl,fun h=>by cases h⟩
  | true=>exact ⟨_,true,rfl,rfl,fun h=>(by cases h),fun _=>⟨rfl,(E1W (F0g hr e) (E7N hd (F0E hr e))).2⟩⟩
theorem E59(w y:A5)(e:V2)(b b':Bool)(hl:y.2.2.2.2.2.length=w.2.2.2.2.2.length)(hn:w.2.2.2.2.2.length<=1000)(h:∀ i:Nat,rd (.int .i64) w.2.2.2.2.2 (i:Int)<=rd (.int .i64) y.2.2.2.2.2 (i:Int)):C3 (A7P (w,e,()) (y,b,())) (0,())=some (.inl ()):=by
 have key:=E0 (A7P (w,e,()) (y,b,())) (fun j=>((j:Int),())) w.2.2.2.2.2.length (.inl ()) (fun j hj=>?_) ?_
 ·exact key
 ·have:=h j;simp only [A7P];rw [A0 (show (j:Int)<(w.2.2.2.2.2.length:Int) by omega),A0 (show (0:Int)<=(j:Int) by omega),A0 (show (j:Int)<(y.2.2.2.2.2.length:Int) by omega),A4 (show ¬ rd (.int .i64) y.2.2.2.2.2 (j:Int)<rd (.int .i64) w.2.2.2.2.2 (j:Int) from Int.not_lt.2 this),w64 (n:=(j:Int)+1) (by omega) (by omega)];rfl
 ·simp only [A7P];rw [A4 (by omega)];rfl
theorem exactDone(a:List Int):C3E a=some (true,()):=by
 simp only [C3E,C3D,D00,D68,bO];by_cases ha:(a.length:Int)>1048576
 ·rw [A0 ha];rfl
 rw [A4 ha];obtain ⟨w,e,q,hw⟩:=E58 a (by omega);obtain ⟨y,b,es,ei,hf,ht⟩:=E91 hw e;have hbe:=hw.be_;simp only [cond_false,q,es,ei,bO];cases b with
 | false=>
  have:=hf rfl;subst this;have hU:=D8n hw.st;rw [A0 (show (y.2.1.length:Int)=(y.2.1.length:Int) from rfl),A0 (show (y.2.2.2.1.length:Int)=(y.2.2.2.1.length:Int) from rfl),A0 (show (y.2.2.2.2.1.length:Int)=(y.2.2.2.2.1.length:Int) from rfl)];simp only [B8,hU,bO];rfl
 | true=>
  obtain ⟨h1,h2⟩:=ht rfl;have hbst:=E90 w e;have hcl:=F0D w e;rw [<- h1] at hbst hcl;have hlp:=E59 w y e true true hbst.1 (by omega) hbst.2;rw [A0 (show (y.2.1.length:Int)=(w.2.1.length:Int) by omega)];simp only [B8,hlp,h2,bO];rfl
end Go.Proofs.YtpdcljonclhhpaaGreat.Ev
