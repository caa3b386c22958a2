/- What the plain functions of the program and of the reference answer: laws of plain data. -/
import Derived.Test.YtpdcljonclhhpaaGreatXArrivesa
set_option linter.unusedVariables false
set_option linter.unusedSimpArgs false
namespace Go.Proofs.YtpdcljonclhhpaaGreat.Ev
theorem D8p{st:A7}{id:ByteArray}(h:∀ u∈st.2.2.2,u.1≠id):B0C st id=D20:=by
 unfold B0C;split
 ·rename_i hlt;exfalso;have hf:=A2U (fun j=>!((rd kUp st.2.2.2 (j:Int)).1.toList == id.toList)) st.2.2.2.length 0 (by unfold B62 at hlt;omega);have hf2:(!((rd kUp st.2.2.2 (B62 st.2.2.2 id:Int)).1.toList == id.toList))=false:=hf;rw [C3 (k:=kUp) (xs:=st.2.2.2) hlt] at hf2;simp only [Bool.not_eq_false',beq_iff_eq] at hf2;exact h _ (List.getElem_mem hlt) (B5k hf2)
 ·rfl
structure LeU (u v:TUp):Prop where
 id:u.1=v.1
 want:@Eq Int u.2.1 v.2.1
 len:List.length u.2.2.1≤List.length v.2.2.1
 dat:u.2.2.1=List.take (List.length u.2.2.1) v.2.2.1
 fin:u.2.2.2=true→v.2.2.2=true∧v.2.2.1=u.2.2.1
def B7q(us vs:List TUp):Prop:=∀ u∈us,∃ v∈vs,LeU u v
theorem C5H(u:TUp):LeU u u:=⟨rfl,rfl,Nat.le_refl _,(List.take_length).symm,fun h=>⟨h,rfl⟩⟩
theorem D8q{u v x:TUp}(h:LeU u v)(h':LeU v x):LeU u x:=
 ⟨h.id.trans h'.id,h.want.trans h'.want,Nat.le_trans h.len h'.len,by
  have h1:=h.dat;rw [h'.dat,List.take_take,Nat.min_eq_left h.len] at h1;exact h1,fun hd=>by
  obtain ⟨g1,g2⟩:=h.fin hd;obtain ⟨g3,g4⟩:=h'.fin g1;exact ⟨g3,g4.trans g2⟩⟩
theorem A2V(us:List TUp):B7q us us:=fun u hu=>⟨u,hu,C5H u⟩
theorem C5I{us vs xs:List TUp}(h:B7q us vs)(h':B7q vs xs):B7q us xs:=fun u hu=>by
 obtain ⟨v,hv,h1⟩:=h u hu;obtain ⟨x,hx,h2⟩:=h' v hv;exact ⟨x,hx,D8q h1 h2⟩
theorem D2f{us:List TUp}{p:Nat}{v:TUp}(h:∀ hp:p<us.length,LeU us[p] v):B7q us (us.set p v):=fun u hu=>by
 obtain ⟨j,hj,rfl⟩:=List.getElem_of_mem hu;by_cases hjp:p=j
 ·subst hjp;exact ⟨v,List.mem_iff_getElem.2 ⟨p,by rw [List.length_set];exact hj,List.getElem_set_self _⟩,h hj⟩
 ·exact ⟨us[j],List.mem_iff_getElem.2 ⟨j,by rw [List.length_set];exact hj,List.getElem_set_ne hjp _⟩,C5H _⟩
theorem B7r{us us':List TUp}{r:H5}(h:J4 us r=some us')(hk:r.2.2.1≠4):B7q us us':=by
 simp only [J4] at h;split at h
 ·split at h
  ·cases h
  ·injection h with h;subst h
   intro u hu;refine ⟨u,?_,C5H u⟩;rw [← List.take_append_drop (A9 us r.2.2.2.1) us] at hu;rcases List.mem_append.1 hu with hu | hu
   ·exact List.mem_append_left _ hu
   ·exact List.mem_append_right _ (List.mem_cons_of_mem _ hu)
 ·split at h
  ·cases h
  ·split at h
   ·split at h
    ·cases h
    ·rename_i hc;injection h with h;subst h
     refine D2f fun hp=>?_
     rw [C3 (k:=kUp) (xs:=us) hp] at hc ⊢;rw [not_or] at hc;refine ⟨rfl,rfl,?_,?_,fun hd=>absurd hd hc.1⟩
     ·simp only [List.length_append];omega
     ·simp only [List.take_left]
   ·split at h
    ·split at h
     ·cases h
     ·injection h with h;subst h
      refine D2f fun hp=>?_
      rw [C3 (k:=kUp) (xs:=us) hp];refine ⟨rfl,rfl,Nat.le_refl _,(List.take_length).symm,fun _=>⟨rfl,rfl⟩⟩
    ·cases h
theorem C5J:∀ {l:List H5} {us us':List TUp},G2 us l=some us'→(∀ r∈l,r.2.2.1≠4)→B7q us us'
 | [],us,us',h,_=>by
  simp only [G2,Option.some.injEq] at h;subst h;exact A2V _
 | r::l,us,us',h,hk=>by
  simp only [G2] at h;split at h
  ·rename_i us1 e1;exact C5I (B7r e1 (hk r List.mem_cons_self)) (C5J h fun x hx=>hk x (List.mem_cons_of_mem _ hx))
  ·cases h
theorem C0l{L:List H5}{a b:Nat}{ua ub:List TUp}(hab:a≤b)(ha:G2 [] (L.take a)=some ua)(hb:G2 [] (L.take b)=some ub)(hk:∀ r∈L,r.2.2.1≠4):B7q ua ub:=by
 have e:L.take b=L.take a++(L.take b).drop a:=by
  have:=List.take_append_drop a (L.take b);rw [List.take_take,Nat.min_eq_left hab] at this;exact this.symm
 rw [e,A9U,ha] at hb;exact C5J hb fun r hr=>hk r (List.mem_of_mem_take (List.mem_of_mem_drop hr))
structure OkU (f:List Int) (u:TUp):Prop where
 want:@Eq Int u.2.1 (f.length:Int)
 len:List.length u.2.2.1≤f.length
 dat:u.2.2.1=f.take (List.length u.2.2.1)
 fin:u.2.2.2=true→List.length u.2.2.1=f.length
theorem E3m{f:List Int}{u v:TUp}(h:LeU u v)(hv:OkU f v):OkU f u:=by
 refine ⟨h.want.trans hv.want,Nat.le_trans h.len hv.len,?_,fun hd=>?_⟩
 ·have h1:=h.dat;rw [hv.dat,List.take_take,Nat.min_eq_left h.len] at h1;exact h1
 ·obtain ⟨g1,g2⟩:=h.fin hd;rw [← g2];exact hv.fin g1
structure ClG (c:A6):Prop where
 ok:G7 c=true
 lo:c.2.2.1≠6
 byt:Byt c.2.1
 off:c.2.2.1=3→c.2.2.2<(c.2.1.length:Int)
def Fits(c:A6)(r:L8):Prop:=
 (c.2.2.1=1∧(r=(201,0)∨(∃ o:Nat,o≤c.2.1.length∧r=(409,(o:Int)))∨r=(507,-1)))∨
 (c.2.2.1=2∧(r=(404,-1)∨∃ o:Nat,o≤c.2.1.length∧r=(200,(o:Int))))∨
 (c.2.2.1=3∧((∃ o:Nat,o≤c.2.1.length∧(r=(204,(o:Int))∨r=(409,(o:Int))))∨r=(404,-1)∨r=(507,-1)))∨
 (c.2.2.1=4∧(r=(200,-1)∨r=(404,-1)∨(∃ o:Nat,o≤c.2.1.length∧r=(409,(o:Int)))∨r=(507,-1)))
def Told(c:A6)(r:L8)(us:List TUp):Prop:=
 (r.2=-1∨∃ u∈us,u.1=c.1∧r.2≤(List.length u.2.2.1:Int))∧(c.2.2.1=4→r.1=200→∃ u∈us,u.1=c.1∧u.2.2.2=true)
theorem C9D{c:A6}{r:L8}{us vs:List TUp}(h:Told c r us)(hl:B7q us vs):Told c r vs:=by
 refine ⟨h.1.elim .inl fun ⟨u,hu,e,hle⟩=>?_,fun h4 h2=>?_⟩
 ·obtain ⟨v,hv,hlu⟩:=hl u hu;have:=hlu.len;exact .inr ⟨v,hv,hlu.id.symm.trans e,by omega⟩
 ·obtain ⟨u,hu,e,hd⟩:=h.2 h4 h2;obtain ⟨v,hv,hlu⟩:=hl u hu;exact ⟨v,hv,hlu.id.symm.trans e,(hlu.fin hd).1⟩
def E3n(c:A6)(st st':A7):Prop:=st' = st∨∃ r us,B3b r∧r.1=st.2.1∧r.2.1=st.2.2.1∧st.2.2.1<(st.1.1.length:Int)∧J4 st.2.2.2 r=some us∧r.2.2.1≠4∧st' = wrote st r us∧∀ u∈us,u∈st.2.2.2∨(u.1=c.1∧OkU c.2.1 u)
theorem B0r{st:A7}{id:ByteArray}(h:F5 st.2.2.2 id=true):∃ u∈st.2.2.2,u.1=id∧lenOf st id=(List.length u.2.2.1:Int)∧rd kUp st.2.2.2 (A9 st.2.2.2 id:Int)=u:=by
 obtain ⟨hlt,e⟩:=H4.1 h;refine ⟨_,List.getElem_mem hlt,B5k e,?_,C3 (k:=kUp) (xs:=st.2.2.2) hlt⟩;unfold lenOf;rw [if_pos h,C3 (k:=kUp) (xs:=st.2.2.2) hlt]
theorem U4{c:A6}(h:ClG c):idB c.1=true∧c.2.1.length≤400∧1≤c.2.2.1∧c.2.2.1≤5∧0≤c.2.2.2∧c.2.2.2≤(c.2.1.length:Int):=by
 have h1:=h.ok;simp only [G7,Bool.and_eq_true,decide_eq_true_eq] at h1;have:=h.lo;refine ⟨h1.1.1.1,?_⟩;omega
theorem C9E{c:A6}(hc:ClG c){st:A7}(hR:Rt st)(hu:∀ u∈st.2.2.2,u.1=c.1→OkU c.2.1 u){r:A1e}{dat:List Int}(hq:G6 c=(r,dat,true,())) :
  E3n c st (A5k st r dat).1∧Fits c (A5k st r dat).2∧Told c (A5k st r dat).2 (A5k st r dat).1.2.2.2:=by
 obtain ⟨hid,hlen,h1,h5,o0,o1⟩:=U4 hc;obtain ⟨r5,r200⟩:=E3k hR;have tell:F5 st.2.2.2 c.1=true→∃ o:Nat,o≤c.2.1.length∧lenOf st c.1=(o:Int)∧∃ u∈st.2.2.2,u.1=c.1∧(o:Int)≤(List.length u.2.2.1:Int):=fun hh=>by
  obtain ⟨u,hm,e,hl,_⟩:=B0r hh;exact ⟨_,(hu u hm e).len,hl,u,hm,e,Int.le_refl _⟩
 unfold G6 at hq;rw [hc.ok] at hq;simp only [Bool.true_eq_false,if_false] at hq;split at hq
 ·rename_i s1;injection hq with q1 q2
  injection q2 with q2 _
  subst q1;subst q2;simp only [A5k,if_true];have hcode:∀ k,(A0a st c.1 (c.2.1.length:Int)).2=k→k=0∨k=3∧F5 st.2.2.2 c.1=true∨k=5:=by
   intro k hk;unfold A0a at hk;rw [if_pos ⟨hid,by omega,by omega⟩] at hk;split at hk
   ·rename_i hh;exact .inr (.inl ⟨hk.symm,hh⟩)
   ·split at hk
    ·exact .inr (.inr hk.symm)
    ·exact .inl hk.symm
  by_cases hz:(A0a st c.1 (c.2.1.length:Int)).2=0
  ·rw [if_pos hz];have hz':=hz;unfold A0a at hz' ⊢;rw [if_pos ⟨hid,by omega,by omega⟩] at hz' ⊢;split at hz'
   ·simp at hz'
   ·rename_i hh;rw [if_neg hh];split at hz'
    ·simp at hz'
    ·rename_i h10;rw [if_neg h10];have hr:=A5i hR.g 1 (c.2.1.length:Int) c.1 hid (fun hx=>h10 (.inl hx)) (.inl ⟨rfl,by omega,by omega⟩);have hf:=B0o (st:=st) (id:=c.1) (want:=(c.2.1.length:Int)) hh (fun hx=>h10 (.inr hx));refine ⟨.inr ⟨_,_,⟨hr,T4⟩,rfl,rfl,by omega,hf,by simp,rfl,fun u hm=>?_⟩,.inl ⟨s1,.inl rfl⟩,.inr ⟨(c.1,(c.2.1.length:Int),[],false),?_,rfl,by simp⟩,fun h4=>by rw [s1] at h4;cases h4⟩
     ·rcases List.mem_append.1 hm with hm | hm
      ·exact .inl (List.mem_of_mem_take hm)
      ·rcases List.mem_cons.1 hm with rfl | hm
       ·exact .inr ⟨rfl,rfl,Nat.zero_le _,rfl,fun h=>by cases h⟩
       ·exact .inl (List.mem_of_mem_drop hm)
     ·show _∈_++_::_;simp
  ·rw [if_neg hz,B7o hz];rcases hcode _ rfl with h | ⟨h,hh⟩ | h
   ·exact absurd h hz
   ·obtain ⟨o,g1,g2,g3⟩:=tell hh;rw [h];have e:G3 st 3 c.1=(409,(o:Int)):=by unfold G3;rw [if_neg (by omega),if_pos (.inl rfl),g2]
    rw [e];exact ⟨.inl rfl,.inl ⟨s1,.inr (.inl ⟨o,g1,rfl⟩)⟩,.inr g3,fun h4=>by rw [s1] at h4;cases h4⟩
   ·rw [h];have e:G3 st 5 c.1=(507,-1):=by unfold G3;rw [if_neg (by omega),if_neg (by omega),if_pos rfl]
    rw [e];exact ⟨.inl rfl,.inl ⟨s1,.inr (.inr rfl)⟩,.inl rfl,fun h4=>by rw [s1] at h4;cases h4⟩
 ·split at hq
  ·rename_i s2;injection hq with q1 q2
   injection q2 with q2 _
   subst q1;subst q2;simp only [A5k];rw [if_neg (by omega),if_neg (by omega),if_neg (by omega),if_neg (by omega)];refine ⟨.inl rfl,?_⟩;unfold D0M;simp only;split
   ·rename_i hh;obtain ⟨o,g1,g2,g3⟩:=tell hh;rw [if_neg (by simp),g2];exact ⟨.inr (.inl ⟨s2,.inr ⟨o,g1,rfl⟩⟩),.inr g3,fun h4=>by rw [s2] at h4;cases h4⟩
   ·exact ⟨.inr (.inl ⟨s2,.inl rfl⟩),.inl rfl,fun h4=>by rw [s2] at h4;cases h4⟩
  ·split at hq
   ·rename_i s3;injection hq with q1 q2
    injection q2 with q2 _
    subst q1;have hoff:=hc.off s3;obtain ⟨ho,hoe⟩:∃ o:Nat,c.2.2.2=(o:Int):=⟨c.2.2.2.toNat,by omega⟩;rw [hoe,Int.toNat_natCast] at q2;have hdl:dat.length=min (ho+24) c.2.1.length-ho:=by rw [← q2];simp [List.length_drop,List.length_take]
    have hbd:Byt dat:=by rw [← q2];exact A4i (A22 hc.byt _) _
    have hpc:nPc dat=1:=by unfold nPc;omega
    simp only [A5k];rw [if_neg (by omega),if_pos trivial];have hcode:∀ k,(A23 st c.1 c.2.2.2 dat).2=k→k=0∨k=2∨k=4∧F5 st.2.2.2 c.1=true∨k=5:=by
     intro k hk;unfold A23 at hk;rw [if_pos ⟨hid,by omega,by omega⟩] at hk;split at hk
     ·rename_i hh;split at hk
      ·exact .inr (.inr (.inl ⟨hk.symm,hh⟩))
      ·split at hk
       ·exact .inr (.inr (.inr hk.symm))
       ·exact .inl hk.symm
     ·exact .inr (.inl hk.symm)
    by_cases hz:(A23 st c.1 c.2.2.2 dat).2=0
    ·rw [if_pos hz];obtain ⟨e1,e2,e3⟩:=B8w hR hbd hz;have hz':=hz;unfold A23 at hz' e1 ⊢;rw [if_pos ⟨hid,by omega,by omega⟩] at hz' e1 ⊢;split at hz'
     ·rename_i hh;rw [if_pos hh] at e1 ⊢;split at hz'
      ·simp at hz'
      ·rename_i h4;rw [if_neg h4] at e1 ⊢;split at hz'
       ·simp at hz'
       ·rename_i hl5;rw [if_neg hl5] at e1 ⊢;simp only [hpc] at e1 ⊢;have hcc:=B2T hR hbd hid (by omega) hh h4 hl5;obtain ⟨hr,hf,hI⟩:=B0n hcc (D5M hcc) (show 0<nPc dat by omega);have hpl:K0 24 dat 0=dat:=by unfold K0;rw [Nat.zero_mul,Nat.zero_add,List.drop_zero,List.take_of_length_le (by omega)]
        have hnx:=hcc.nx;obtain ⟨u0,hm0,hid0,hl0,hrd0⟩:=B0r hh;have hok0:=hu u0 hm0 hid0;have hnd:u0.2.2.2=false:=by have:=hcc.nd;rw [hrd0] at this;exact this
        have hat:c.2.2.2=(List.length u0.2.2.1:Int):=by rw [e2,hl0]
        have hnew:OkU c.2.1 (u0.1,u0.2.1,u0.2.2.1++dat,u0.2.2.2):=by
         refine ⟨hok0.want,?_,?_,fun hd=>by rw [hnd] at hd;cases hd⟩
         ·simp only [List.length_append];omega
         ·simp only [List.length_append];have hou:List.length u0.2.2.1=ho:=by omega
          have hd0:=hok0.dat;rw [hou] at hd0;rw [hou,hdl];rw [hd0,← q2];have:=List.take_append_drop ho (c.2.1.take (min (ho+24) c.2.1.length));rw [List.take_take,Nat.min_eq_left (by omega)] at this;rw [this]
          congr 1
          omega
        have hcat:B0m st.2.2.2 c.1 dat=st.2.2.2.set (A9 st.2.2.2 c.1) (u0.1,u0.2.1,u0.2.2.1++dat,u0.2.2.2):=by unfold B0m;rw [hrd0]
        rw [hpl] at hr hf;have hmem:∀ u∈B0m st.2.2.2 c.1 dat,u∈st.2.2.2∨(u.1=c.1∧OkU c.2.1 u):=fun u hm=>by
         rw [hcat] at hm;rcases List.mem_or_eq_of_mem_set hm with hm | rfl
         ·exact .inl hm
         ·exact .inr ⟨hid0,hnew⟩
        have hput1:putAt st c.1 c.2.2.2 dat 1=wrote st (st.2.1,st.2.2.1,2,c.1,c.2.2.2+((0*24:Nat):Int),dat) (B0m st.2.2.2 c.1 dat):=by
         show D0I (putAt st c.1 c.2.2.2 dat 0) c.1 _ (K0 24 dat 0)=_;rw [hpl];rfl
        rw [hput1];refine ⟨.inr ⟨_,_,⟨hr,hbd⟩,rfl,rfl,by omega,hf,by simp,rfl,hmem⟩,.inr (.inr (.inl ⟨s3,.inl ⟨(c.2.2.2+(dat.length:Int)).toNat,by omega,.inl ?_⟩⟩)),.inr ?_,fun h4=>by rw [s3] at h4;cases h4⟩
        ·rw [Int.toNat_of_nonneg (by omega)]
        ·refine ⟨(u0.1,u0.2.1,u0.2.2.1++dat,u0.2.2.2),?_,hid0,by simp only [List.length_append];omega⟩;show _∈B0m st.2.2.2 c.1 dat;rw [hcat];obtain ⟨hlt,_⟩:=H4.1 hh;exact List.mem_iff_getElem.2 ⟨_,by rw [List.length_set];exact hlt,List.getElem_set_self _⟩
     ·simp at hz'
    ·rw [if_neg hz,C0j hz];rcases hcode _ rfl with h | h | ⟨h,hh⟩ | h
     ·exact absurd h hz
     ·rw [h];have e:G3 st 2 c.1=(404,-1):=by unfold G3;rw [if_pos rfl]
      rw [e];exact ⟨.inl rfl,.inr (.inr (.inl ⟨s3,.inr (.inl rfl)⟩)),.inl rfl,fun h4=>by rw [s3] at h4;cases h4⟩
     ·obtain ⟨o,g1,g2,g3⟩:=tell hh;rw [h];have e:G3 st 4 c.1=(409,(o:Int)):=by unfold G3;rw [if_neg (by omega),if_pos (.inr rfl),g2]
      rw [e];exact ⟨.inl rfl,.inr (.inr (.inl ⟨s3,.inl ⟨o,g1,.inr rfl⟩⟩)),.inr g3,fun h4=>by rw [s3] at h4;cases h4⟩
     ·rw [h];have e:G3 st 5 c.1=(507,-1):=by unfold G3;rw [if_neg (by omega),if_neg (by omega),if_pos rfl]
      rw [e];exact ⟨.inl rfl,.inr (.inr (.inl ⟨s3,.inr (.inr rfl)⟩)),.inl rfl,fun h4=>by rw [s3] at h4;cases h4⟩
   ·split at hq
    ·rename_i s4;injection hq with q1 q2
     injection q2 with q2 _
     subst q1;subst q2;simp only [A5k];rw [if_neg (by omega),if_neg (by omega),if_pos trivial];have hcrc:∀ u∈st.2.2.2,u.1=c.1→¬ (List.length u.2.2.1:Int)<u.2.1→u.2.2.1=c.2.1:=fun u hm e hl=>by
      have hk:=hu u hm e;have h7:=hk.want;have h8:=hk.len;have h9:=hk.dat;rw [List.take_of_length_le (by omega)] at h9;exact h9
     have hcode:∀ k,(X3 st c.1 ((A2t c.2.1 ^^^ 4294967295:Nat):Int)).2=k→(k=0∧∃ u∈(X3 st c.1 ((A2t c.2.1 ^^^ 4294967295:Nat):Int)).1.2.2.2,u.1=c.1∧u.2.2.2=true)∨k=2∨k=4∧F5 st.2.2.2 c.1=true∨k=5:=by
      intro k hk;unfold X3 at hk ⊢;rw [if_pos hid] at hk ⊢;split at hk
      ·rename_i hh;obtain ⟨u0,hm0,hid0,hl0,hrd0⟩:=B0r hh;rw [if_pos hh];rw [hrd0] at hk ⊢;split at hk
       ·exact .inr (.inr (.inl ⟨hk.symm,hh⟩))
       ·rename_i hl;rw [if_neg hl];have hfd:=hcrc u0 hm0 hid0 hl;rw [hfd] at hk ⊢;simp only [ne_eq,not_true_eq_false,if_false] at hk ⊢;split at hk
        ·rename_i hd;rw [if_pos hd];exact .inl ⟨hk.symm,u0,hm0,hid0,hd⟩
        ·rename_i hd;rw [if_neg hd];split at hk
         ·exact .inr (.inr (.inr hk.symm))
         ·rename_i hle;rw [if_neg hle];refine .inl ⟨hk.symm,(u0.1,u0.2.1,c.2.1,true),?_,hid0,rfl⟩;obtain ⟨hlt,_⟩:=H4.1 hh;show _∈List.set _ _ _;exact List.mem_iff_getElem.2 ⟨_,by rw [List.length_set];exact hlt,List.getElem_set_self _⟩
      ·exact .inr (.inl hk.symm)
     by_cases hz:(X3 st c.1 ((A2t c.2.1 ^^^ 4294967295:Nat):Int)).2=0
     ·rw [if_pos hz];rcases hcode _ rfl with ⟨_,hd⟩ | h | ⟨h,_⟩ | h
      ·refine ⟨?_,.inr (.inr (.inr ⟨s4,.inl rfl⟩)),.inl rfl,fun _ _=>hd⟩;have hz':=hz;unfold X3 at hz' ⊢;rw [if_pos hid] at hz' ⊢;split at hz'
       ·rename_i hh;rw [if_pos hh];split at hz'
        ·simp at hz'
        ·rename_i hl;rw [if_neg hl];split at hz'
         ·simp at hz'
         ·rename_i hcr;rw [if_neg hcr];split at hz'
          ·rename_i hd;rw [if_pos hd];exact .inl rfl
          ·rename_i hd;rw [if_neg hd];split at hz'
           ·simp at hz'
           ·rename_i hle;rw [if_neg hle];have hr:=A5i hR.g 3 0 c.1 hid hle (.inr ⟨.inl rfl,rfl⟩);have hf:=B0p hR.up hh hl hd;obtain ⟨u0,hm0,hid0,hl0,hrd0⟩:=B0r hh;have hok0:=hu u0 hm0 hid0;refine .inr ⟨_,_,⟨hr,T4⟩,rfl,rfl,by omega,hf,by simp,rfl,fun u hm=>?_⟩;rw [hrd0] at hm hl;rcases List.mem_or_eq_of_mem_set hm with hm | rfl
            ·exact .inl hm
            ·have h7:=hok0.want;have h8:=hok0.len;exact .inr ⟨hid0,hok0.want,hok0.len,hok0.dat,fun _=>by show List.length u0.2.2.1=_;omega⟩
       ·simp at hz'
      ·rw [h] at hz;cases hz
      ·rw [h] at hz;cases hz
      ·rw [h] at hz;cases hz
     ·rw [if_neg hz,B7p hz];rcases hcode _ rfl with ⟨h,_⟩ | h | ⟨h,hh⟩ | h
      ·exact absurd h hz
      ·rw [h];have e:G3 st 2 c.1=(404,-1):=by unfold G3;rw [if_pos rfl]
       rw [e];exact ⟨.inl rfl,.inr (.inr (.inr ⟨s4,.inr (.inl rfl)⟩)),.inl rfl,fun _ h2=>by cases h2⟩
      ·obtain ⟨o,g1,g2,g3⟩:=tell hh;rw [h];have e:G3 st 4 c.1=(409,(o:Int)):=by unfold G3;rw [if_neg (by omega),if_pos (.inr rfl),g2]
       rw [e];exact ⟨.inl rfl,.inr (.inr (.inr ⟨s4,.inr (.inr (.inl ⟨o,g1,rfl⟩))⟩)),.inr g3,fun _ h2=>by cases h2⟩
      ·rw [h];have e:G3 st 5 c.1=(507,-1):=by unfold G3;rw [if_neg (by omega),if_neg (by omega),if_pos rfl]
       rw [e];exact ⟨.inl rfl,.inr (.inr (.inr ⟨s4,.inr (.inr (.inr rfl))⟩)),.inl rfl,fun _ h2=>by cases h2⟩
    ·unfold B8f at hq;injection hq with _ hq
     injection hq with _ hq
     injection hq with hq _
     cases hq
theorem C9F{c:A6}(hc:ClG c){r:L8}(hf:Fits c r):ClG (hear c r)∧(hear c r).1=c.1∧(hear c r).2.1=c.2.1∧((hear c r).2.2.1=5→c.2.2.1=4∧r.1=200)∧A2s c=false:=by
 obtain ⟨hid,hlen,h1,h5,o0,o1⟩:=U4 hc;have mk:∀ (s o:Int),1≤s→s≤5→0≤o→o≤(c.2.1.length:Int)→(s=3→o<(c.2.1.length:Int))→ClG (c.1,c.2.1,s,o):=fun s o g1 g2 g3 g4 g5=>by
  refine ⟨?_,by show s≠6;omega,hc.byt,g5⟩;simp only [G7,Bool.and_eq_true,decide_eq_true_eq];refine ⟨⟨⟨hid,by omega⟩,by omega⟩,by omega⟩
 have far_ok:∀ o:Nat,o≤c.2.1.length→ClG (far c (o:Int))∧(far c (o:Int)).1=c.1∧(far c (o:Int)).2.1=c.2.1∧(far c (o:Int)).2.2.1≠5:=fun o ho=>by
  unfold far;rw [if_pos ⟨by omega,by omega⟩];split
  ·exact ⟨mk 4 _ (by omega) (by omega) (by omega) (by omega) (fun h=>by cases h),rfl,rfl,by simp⟩
  ·exact ⟨mk 3 _ (by omega) (by omega) (by omega) (by omega) (fun _=>by omega),rfl,rfl,by simp⟩
 have ov:∀ s:Int,c.2.2.1=s→s≠5→s≠6→A2s c=false:=fun s e n5 n6=>by
  unfold A2s;rw [e,A3 n5,A3 n6];rfl
 have stay:∀ (st o:Int) (s:Int),A0S c.2.2.1 st=s→s≠0→s≠5→1≤s→s≤4→(s=3→c.2.2.2<(c.2.1.length:Int))→ClG (hear c (st,o))∧(hear c (st,o)).1=c.1∧(hear c (st,o)).2.1=c.2.1∧(hear c (st,o)).2.2.1≠5:=fun st o s e n0 n5 g1 g2 g3=>by
  unfold hear;simp only [e];rw [if_neg n0];exact ⟨mk s _ g1 (by omega) o0 o1 g3,rfl,rfl,n5⟩
 have goFar:∀ (st:Int) (o:Nat),A0S c.2.2.1 st=0→o≤c.2.1.length→ClG (hear c (st,(o:Int)))∧(hear c (st,(o:Int))).1=c.1∧(hear c (st,(o:Int))).2.1=c.2.1∧(hear c (st,(o:Int))).2.2.1≠5:=fun st o e ho=>by
  unfold hear;simp only [e];exact far_ok o ho
 have fin:∀ {r:L8},(ClG (hear c r)∧(hear c r).1=c.1∧(hear c r).2.1=c.2.1∧(hear c r).2.2.1≠5)→A2s c=false→ClG (hear c r)∧(hear c r).1=c.1∧(hear c r).2.1=c.2.1∧((hear c r).2.2.1=5→c.2.2.1=4∧r.1=200)∧A2s c=false:=fun h ho=>⟨h.1,h.2.1,h.2.2.1,fun e=>absurd e h.2.2.2,ho⟩
 rcases hf with ⟨s,h | ⟨o,ho,h⟩ | h⟩ | ⟨s,h | ⟨o,ho,h⟩⟩ | ⟨s,⟨o,ho,h | h⟩ | h | h⟩ | ⟨s,h | h | ⟨o,ho,h⟩ | h⟩<;>subst h
 ·exact fin (goFar 201 0 (by rw [s];rfl) (Nat.zero_le _)) (ov _ s (by omega) (by omega))
 ·exact fin (stay 409 _ 2 (by rw [s];rfl) (by omega) (by omega) (by omega) (by omega) (fun h=>by cases h)) (ov _ s (by omega) (by omega))
 ·exact fin (stay 507 _ 1 (by rw [s];rfl) (by omega) (by omega) (by omega) (by omega) (fun h=>by cases h)) (ov _ s (by omega) (by omega))
 ·exact fin (stay 404 _ 1 (by rw [s];rfl) (by omega) (by omega) (by omega) (by omega) (fun h=>by cases h)) (ov _ s (by omega) (by omega))
 ·exact fin (goFar 200 o (by rw [s];rfl) ho) (ov _ s (by omega) (by omega))
 ·exact fin (goFar 204 o (by rw [s];rfl) ho) (ov _ s (by omega) (by omega))
 ·exact fin (goFar 409 o (by rw [s];rfl) ho) (ov _ s (by omega) (by omega))
 ·exact fin (stay 404 _ 1 (by rw [s];rfl) (by omega) (by omega) (by omega) (by omega) (fun h=>by cases h)) (ov _ s (by omega) (by omega))
 ·exact fin (stay 507 _ 3 (by rw [s];rfl) (by omega) (by omega) (by omega) (by omega) (fun _=>hc.off s)) (ov _ s (by omega) (by omega))
 ·refine ⟨?_,?_,?_,fun _=>⟨s,rfl⟩,ov _ s (by omega) (by omega)⟩
  ·have e:hear c (200,-1)=(c.1,c.2.1,5,c.2.2.2):=by unfold hear;rw [s];rfl
   rw [e];exact mk 5 _ (by omega) (by omega) o0 o1 (fun h=>by cases h)
  ·unfold hear;rw [s];rfl
  ·unfold hear;rw [s];rfl
 ·exact fin (stay 404 _ 1 (by rw [s];rfl) (by omega) (by omega) (by omega) (by omega) (fun h=>by cases h)) (ov _ s (by omega) (by omega))
 ·exact fin (stay 409 _ 2 (by rw [s];rfl) (by omega) (by omega) (by omega) (by omega) (fun h=>by cases h)) (ov _ s (by omega) (by omega))
 ·exact fin (stay 507 _ 4 (by rw [s];rfl) (by omega) (by omega) (by omega) (by omega) (fun h=>by cases h)) (ov _ s (by omega) (by omega))
theorem A8R{c:A6}(hc:ClG c):ClG (G5 c)∧(G5 c).1=c.1∧(G5 c).2.1=c.2.1∧((G5 c).2.2.1=5→c.2.2.1=5):=by
 obtain ⟨hid,hlen,h1,h5,o0,o1⟩:=U4 hc;unfold G5;split
 ·refine ⟨⟨?_,by show (2:Int)≠6;omega,hc.byt,fun h=>by cases h⟩,rfl,rfl,fun h=>by cases h⟩;simp only [G7,Bool.and_eq_true,decide_eq_true_eq];refine ⟨⟨⟨hid,by omega⟩,by omega⟩,by omega⟩
 ·exact ⟨hc,rfl,rfl,fun h=>h⟩
abbrev C1z:K:=(.pair .str (.pair (.rs 5 (.int .u8)) F8))
abbrev D0N:K:=(.pair (.int .i64) (.pair Y1 (.rs 5 (.int .u8))))
theorem U5(k:K){xs:List k.T}{i:Nat}{x:k.T}(h:xs[i]? = some x):rd k xs (i:Int)=x:=by
 obtain ⟨hi,e⟩:=List.getElem?_eq_some_iff.1 h;rw [C3 (k:=k) hi,e]
def cW(i:Nat)(l:List K9):Nat:=l.countP fun a=>decide (a.1=(i:Int))
def cH(i:Nat)(l:List C4):Nat:=l.countP fun a=>decide (a.1=(i:Int))
structure WI (k c:Nat) (uc:List TUp) (st:A7) (held:List C4) (cls:List A6) (busy:List Bool) (asks:List K9) (tells:List C4) (best:List Int):Prop where
 dur:Dur st c
 ep:st.2.1≤(k:Int)
 nd:∀ r∈B6 st.1.1,r.2.2.1≠4
 fuc:G2 [] ((B6 st.1.1).take c)=some uc
 n6:cls.length≤6
 lb:busy.length=cls.length
 lt:best.length=cls.length
 dist:∀ (i j:Nat) (a b:A6),cls[i]? = some a→cls[j]? = some b→a.1=b.1→i=j
 cl:∀ (i:Nat) (a:A6),cls[i]? = some a→ClG a
 cnt:∀ (i:Nat) b,busy[i]? = some b→cW i asks+cH i held+cH i tells=if b=true then 1 else 0
 dn:∀ (i:Nat) (a:A6),cls[i]? = some a→a.2.2.1=5→busy[i]? = some false
 ask:∀ a∈asks,∃ (i:Nat) (cl:A6),cls[i]? = some cl∧a.1=(i:Int)∧G6 cl=(a.2.1,a.2.2,true,())
 hld:∀ h∈held,∃ (i:Nat) (cl:A6),cls[i]? = some cl∧h.1=(i:Int)∧Fits cl h.2∧Told cl h.2 st.2.2.2
 tell:∀ h∈tells,∃ (i:Nat) (cl:A6),cls[i]? = some cl∧h.1=(i:Int)∧Fits cl h.2∧Told cl h.2 uc
 bst:∀ (i:Nat) (a:A6) (b:Int),cls[i]? = some a→best[i]? = some b→b=-1∨∃ u∈uc,u.1=a.1∧b≤(List.length u.2.2.1:Int)
 ends:∀ (i:Nat) (a:A6),cls[i]? = some a→a.2.2.1=5→∃ u∈uc,u.1=a.1∧u.2.2.2=true
 oku:∀ u∈st.2.2.2,∃ (i:Nat) (a:A6),cls[i]? = some a∧u.1=a.1∧OkU a.2.1 u
 la:asks.length≤60
 l6:tells.length≤60
 lh:held.length≤200
def WIw(k:Nat)(w:A5):Prop:=∃ c uc,WI k c uc w.1.1 w.1.2 w.2.1 w.2.2.1 w.2.2.2.1 w.2.2.2.2.1 w.2.2.2.2.2
theorem wiw{k c:Nat}{uc:List TUp}{st:A7}{held cls busy asks tells best}(h:WI k c uc st held cls busy asks tells best):WIw k (((st,held),(cls,(busy,(asks,(tells,best))))):A5):=⟨c,uc,h⟩
theorem D7V{k c:Nat}{uc:List TUp}{st:A7}{held cls busy asks tells best}(h:WI k c uc st held cls busy asks tells best):B7q uc st.2.2.2:=by
 have h1:=h.dur.g.up;rw [← List.take_length (l:=B6 st.1.1)] at h1;exact C0l h.dur.le h.fuc h1 h.nd
def rm{α:Type}(l:List α)(j:Nat):List α:=l.take j++l.drop (j+1)
theorem E0x{α:Type}{l:List α}{j:Nat}{a:α}(h:l[j]? = some a):l=l.take j++a::l.drop (j+1):=by
 obtain ⟨hj,e⟩:=List.getElem?_eq_some_iff.1 h;rw [← e,← List.drop_eq_getElem_cons hj,List.take_append_drop]
theorem C5K{α:Type}(p:α→Bool){l:List α}{j:Nat}{a:α}(h:l[j]? = some a):l.countP p=(rm l j).countP p+(if p a=true then 1 else 0):=by
 conv=>lhs;rw [E0x h]
 unfold rm;rw [List.countP_append,List.countP_append,List.countP_cons];omega
theorem C0m{α:Type}{l:List α}{j:Nat}{x:α}(h:x∈rm l j):x∈l:=(List.mem_append.1 h).elim List.mem_of_mem_take List.mem_of_mem_drop
theorem B2Y{α:Type}{l:List α}{j:Nat}(h:j<l.length):(rm l j).length+1=l.length:=by
 simp only [rm,List.length_append,List.length_take,List.length_drop];omega
theorem A9W{α:Type}{l:List α}{i j:Nat}{v x:α}(h:(l.set i v)[j]? = some x):(j=i∧x=v)∨(j≠i∧l[j]? = some x):=by
 rw [List.getElem?_set] at h;split at h
 ·rename_i e;split at h
  ·injection h with h
   exact .inl ⟨e.symm,h.symm⟩
  ·cases h
 ·rename_i e;exact .inr ⟨fun x=>e x.symm,h⟩
theorem A3i{α:Type}{p:α→Bool}{l:List α}(h:l.countP p=0){a:α}(ha:a∈l):¬ p a=true:=List.countP_eq_zero.1 h a ha
theorem B2Z{k c:Nat}{uc:List TUp}{st:A7}{held cls busy asks tells best}(h:WI k c uc st held cls busy asks tells best):Rt st∧A8P st∧F7 st=some (true,()):=by
 obtain ⟨a,b,c,_⟩:=B8u h.dur.g;exact ⟨a,b,c⟩
theorem A9X{a:A6}(h:ClG a):a.1.size≤maxLen:=by
 obtain ⟨h1,_⟩:=U4 h;have:a.1.size≤8:=by simp only [idB,Bool.and_eq_true,decide_eq_true_eq] at h1;omega
 simp only [maxLen];omega
theorem D7W(k:Nat)(w:A5)(h:WIw k w)(i:Int)(hi:i<9223372036854775807):∃ b w',Z9 w i=some (b,w',())∧WIw k w':=by
 obtain ⟨⟨st,held⟩,cls,busy,asks,tells,best⟩:=w;obtain ⟨c,uc,h⟩:=h;simp only at h;have hn:=h.n6;have hlb:=h.lb;have same:WIw k (((st,held),(cls,(busy,(asks,(tells,best))))):A5):=⟨c,uc,h⟩;simp only [Z9,A5v,N1,bO];rw [w64 (n:=(cls.length:Int)-1) (by omega) (by omega)];by_cases hr:0≤i∧i≤(cls.length:Int)-1
 ·obtain ⟨i,rfl⟩:∃ j:Nat,i=(j:Int):=⟨i.toNat,by omega⟩;have hic:i<cls.length:=by omega
  obtain ⟨cl,hcl⟩:∃ x,cls[i]? = some x:=⟨_,List.getElem?_eq_getElem hic⟩;obtain ⟨b,hb⟩:∃ x,busy[i]? = some x:=⟨_,List.getElem?_eq_getElem (by omega)⟩;have hg:=h.cl i cl hcl;rw [A0 hr,A0 (show (0:Int)≤(i:Int) by omega),A0 (show (i:Int)<(busy.length:Int) by omega),A0 (show (i:Int)<(cls.length:Int) by omega),U5 .bool hb,U5 C1z hcl,B8g cl (A9X hg) hg.byt];simp only [Bool.not_true,cond_false,cond_true];cases b with
  | true=>exact ⟨false,_,rfl,same⟩
  | false=>
   simp only [cond_false];by_cases h60:(asks.length:Int)=60
   ·rw [A0 h60];exact ⟨false,_,rfl,same⟩
   ·rw [A3 h60];have hla:=h.la;simp only [cond_false,B7,bO];generalize hq:G6 cl=q;obtain ⟨r,dat,ok,u⟩:=q;cases ok with
    | false=>exact ⟨false,_,rfl,same⟩
    | true=>
     simp only [Bool.not_true,cond_false];rw [A0 (by simp;omega),A0 (by simp;omega)];refine ⟨true,_,rfl,wiw (c:=c) (uc:=uc) ?_⟩;have hpend:=h.cnt i false hb;simp only [Bool.false_eq_true,if_false] at hpend;have hcount:∀ j:Nat,cW j (asks ++ [((i:Int),(r,dat))])=cW j asks+if j=i then 1 else 0:=fun j=>by
      unfold cW;rw [List.countP_append,List.countP_singleton];by_cases hji:j=i
      ·subst hji;simp
      ·rw [if_neg hji];simp;omega
     have hs5:cl.2.2.1≠5:=fun e=>by
      unfold G6 at hq;rw [hg.ok,e] at hq;simp [B8f] at hq
     refine {h with lb:=?_,cnt:=?_,dn:=?_,ask:=?_,la:=?_}
     ·simp only [List.length_set];exact h.lb
     ·intro j b' hb';rw [hcount j];rw [Int.toNat_natCast] at hb';rcases A9W hb' with ⟨rfl,rfl⟩ | ⟨hne,hb'⟩
      ·rw [if_pos rfl,if_pos rfl];omega
      ·have:=h.cnt j b' hb';rw [if_neg hne];omega
     ·intro j a ha h5;rw [Int.toNat_natCast,List.getElem?_set_ne (fun e=>?_)]
      ·exact h.dn j a ha h5
      ·subst e;rw [hcl] at ha;injection ha with ha
       rw [ha] at hs5;exact hs5 h5
     ·intro a ha;rcases List.mem_append.1 ha with ha | ha
      ·exact h.ask a ha
      ·rw [List.mem_singleton.1 ha];exact ⟨i,cl,hcl,rfl,hq⟩
     ·simp only [List.length_append,List.length_cons,List.length_nil];omega
 ·rw [A3 hr];exact ⟨false,_,rfl,same⟩
theorem D2g(k:Nat)(w:A5)(h:WIw k w)(j:Int)(hj:j<9223372036854775807):∃ b w',W6 w j=some (b,w',())∧WIw k w':=by
 obtain ⟨⟨st,held⟩,cls,busy,asks,tells,best⟩:=w;obtain ⟨c,uc,h⟩:=h;simp only at h;have hn:=h.n6;have hla:=h.la;have hlh:=h.lh;have same:WIw k (((st,held),(cls,(busy,(asks,(tells,best))))):A5):=⟨c,uc,h⟩;simp only [W6,A4Q,N1,bO];rw [w64 (n:=(asks.length:Int)-1) (by omega) (by omega)];by_cases hr:0≤j∧j≤(asks.length:Int)-1
 ·obtain ⟨j,rfl⟩:∃ q:Nat,j=(q:Int):=⟨j.toNat,by omega⟩;have hjl:j<asks.length:=by omega
  rw [A0 hr];simp only [Bool.not_true,cond_false];by_cases h200:(held.length:Int)=200
  ·rw [A0 h200];exact ⟨false,_,rfl,same⟩
  rw [A3 h200];obtain ⟨a,ha⟩:∃ x,asks[j]? = some x:=⟨_,List.getElem?_eq_getElem hjl⟩;obtain ⟨i,cl,hcl,hai,hq⟩:=h.ask a (List.mem_of_getElem? ha);have hg:=h.cl i cl hcl;obtain ⟨hR,hS,hok⟩:=B2Z h;have huc:=D7V h;simp only [cond_false,B7];rw [U5 D0N ha,w64 (n:=(j:Int)+1) (by omega) (by omega),A0 (show (0:Int)≤(j:Int) by omega),A0 (show (j:Int)<(asks.length:Int) by omega),A0 (show (j:Int)≤(asks.length:Int) by omega),
   A0 (show (0:Int)≤(j:Int)+1 by omega),A0 (show (j:Int)+1≤(asks.length:Int) by omega),A0 (by simp;omega),A0 (by simp;omega),A0 (by simp;omega),A0 (by simp;omega)]
  simp only [cond_true];have hdat:Byt a.2.2∧List.length a.2.2≤1048576:=by
   obtain ⟨_,h400,_⟩:=U4 hg;have hl:=B4Q cl;rw [hq] at hl;refine ⟨?_,by have:List.length a.2.2≤cl.2.1.length:=hl;omega⟩;have hbb:Byt (G6 cl).2.1:=by
    unfold G6 B8f
    repeat' split
    all_goals first | exact T4 | exact A4i (A22 hg.byt _) _
   rw [hq] at hbb;exact hbb
  have hreq:a.2.1.2.1.size≤maxLen∧(-9223372036854775808≤a.2.1.2.2∧a.2.1.2.2≤9223372036854775807):=by
   obtain ⟨_,h400,_,_,o0,o1⟩:=U4 hg;have hcs:=A9X hg;have hcrc:=A9P hg.byt;have hx:A2t cl.2.1 ^^^ 4294967295<2 ^ 32:=Nat.xor_lt_two_pow hcrc (by omega);have e:(G6 cl).1.2.1.size≤maxLen∧(-9223372036854775808≤(G6 cl).1.2.2∧(G6 cl).1.2.2≤9223372036854775807):=by
    unfold G6 B8f
    repeat' split
    all_goals first | exact ⟨hcs,by simp only;omega⟩ | exact ⟨Nat.zero_le _,by simp only;omega⟩
   rw [hq] at e;exact e
  have hdo:=C9C st a.2.1 a.2.2 hreq.1 hR hS hok hdat.1 hdat.2 hreq.2;have hdo':T1 ((st.1.1,st.1.2),(st.2.1,(st.2.2.1,st.2.2.2))) a.2.1 a.2.2=_:=hdo;rw [hdo];simp only [bO];rw [A0 (by simp;omega),A0 (by simp;omega)];have hser:=C9E hg hR (fun u hu e=>by
   obtain ⟨i',a',h1,h2,h3⟩:=h.oku u hu;have:=h.dist i' i a' cl h1 hcl (by rw [← h2,e]);subst this;rw [hcl] at h1;injection h1 with h1;rw [h1];exact h3) hq
  generalize A5k st a.2.1 a.2.2=ans at hser ⊢;obtain ⟨st',resp⟩:=ans;obtain ⟨hsv,hfit,htold⟩:=hser;simp only at hsv hfit htold;refine ⟨true,_,rfl,wiw (c:=c) (uc:=uc) ?_⟩;have hst:Dur st' c∧st'.2.1=st.2.1∧(∀ r∈B6 st'.1.1,r.2.2.1≠4)∧(B6 st'.1.1).take c=(B6 st.1.1).take c∧B7q st.2.2.2 st'.2.2.2∧∀ u∈st'.2.2.2,u∈st.2.2.2∨(u.1=cl.1∧OkU cl.2.1 u):=by
   rcases hsv with rfl | ⟨r,us,g1,g2,g3,g4,g5,g6,rfl,g7⟩
   ·exact ⟨h.dur,rfl,h.nd,rfl,A2V _,fun u hu=>.inl hu⟩
   ·have hsc:=(B2W h.dur.g g1 g2 g3 g4 g5).2;refine ⟨D8n h.dur g1 g2 g3 g4 g5,rfl,fun x hx=>?_,?_,B7r g5 g6,g7⟩
    ·rw [hsc] at hx;rcases List.mem_append.1 hx with hx | hx
     ·exact h.nd x hx
     ·rw [List.mem_singleton.1 hx];exact g6
    ·rw [hsc,List.take_append_of_le_length h.dur.le]
  obtain ⟨k1,k2,k3,k4,k5,k6⟩:=hst;have hrm:([]++(asks.take (j:Int).toNat).drop 0)++(asks.take asks.length).drop ((j:Int)+1).toNat=rm asks j:=by
   unfold rm;rw [Int.toNat_natCast,show ((j:Int)+1).toNat=j+1 by omega,List.drop_zero,List.take_length];rfl
  simp only [hrm];have hcn:∀ i':Nat,cW i' asks=cW i' (rm asks j)+if (i':Int)=a.1 then 1 else 0:=fun i'=>by
   have:=C5K (fun x:K9=>decide (x.1=(i':Int))) ha;unfold cW;rw [this];by_cases e:(i':Int)=a.1
   ·rw [if_pos e,if_pos (by simp [e])]
   ·rw [if_neg e,if_neg (by simp;omega)]
  have hch:∀ i':Nat,cH i' (held ++ [(a.1,resp)])=cH i' held+if (i':Int)=a.1 then 1 else 0:=fun i'=>by
   unfold cH;rw [List.countP_append,List.countP_singleton];by_cases e:(i':Int)=a.1
   ·rw [if_pos e,if_pos (by simp [e])]
   ·rw [if_neg e,if_neg (by simp;omega)]
  refine {h with dur:=k1,ep:=by rw [k2];exact h.ep,nd:=k3,fuc:=by rw [k4];exact h.fuc,cnt:=?_,ask:=?_,hld:=?_,oku:=?_,la:=?_,lh:=?_}
  ·intro i' b hb;have:=h.cnt i' b hb;have h1:=hcn i';have h2:=hch i';omega
  ·exact fun x hx=>h.ask x (C0m hx)
  ·intro x hx;rcases List.mem_append.1 hx with hx | hx
   ·obtain ⟨i',a',h1,h2,h3,h4⟩:=h.hld x hx;exact ⟨i',a',h1,h2,h3,C9D h4 k5⟩
   ·rw [List.mem_singleton.1 hx];exact ⟨i,cl,hcl,hai,hfit,htold⟩
  ·intro u hu;rcases k6 u hu with hu | ⟨e,hu⟩
   ·exact h.oku u hu
   ·exact ⟨i,cl,hcl,e,hu⟩
  ·have:=B2Y hjl;omega
  ·simp only [List.length_append,List.length_cons,List.length_nil];omega
 ·rw [A3 hr];exact ⟨false,_,rfl,same⟩
theorem D7X(k:Nat)(w:A5)(h:WIw k w):∃ b w',A1i w=some (b,w',())∧WIw k w':=by
 obtain ⟨⟨st,held⟩,cls,busy,asks,tells,best⟩:=w;obtain ⟨c,uc,h⟩:=h;simp only at h;have hl6:=h.l6;have hlh:=h.lh;have same:WIw k (((st,held),(cls,(busy,(asks,(tells,best))))):A5):=⟨c,uc,h⟩;obtain ⟨hR,hS,hok⟩:=B2Z h;have huc:=D7V h;simp only [A1i,A97];rw [w64 (n:=(tells.length:Int)+(held.length:Int)) (by omega) (by omega)];by_cases h60:(tells.length:Int)+(held.length:Int)>60
 ·rw [A0 h60];exact ⟨false,_,rfl,same⟩
 ·rw [A3 h60,A0 (by omega),A0 (by omega),C58 st.1 hS.1];simp only [cond_false,cond_true,bO];refine ⟨true,_,rfl,wiw (c:=(B6 st.1.1).length) (uc:=st.2.2.2) ?_⟩;have hup:=h.dur.g.up;have hd:=B7n h.dur.g;refine {h with dur:=hd,fuc:=by show G2 [] ((B6 st.1.1).take (B6 st.1.1).length)=_;rw [List.take_length];exact hup,cnt:=?_,hld:=fun x hx=>by (cases hx),tell:=?_,bst:=?_,ends:=?_,l6:=?_,lh:=by simp}
  ·intro i b hb;have:=h.cnt i b hb;have e:cH i (tells++held)=cH i tells+cH i held:=List.countP_append;rw [e];have e0:cH i ([]:List C4)=0:=rfl;rw [e0];omega
  ·intro x hx;rcases List.mem_append.1 hx with hx | hx
   ·obtain ⟨i,a,h1,h2,h3,h4⟩:=h.tell x hx;exact ⟨i,a,h1,h2,h3,C9D h4 huc⟩
   ·exact h.hld x hx
  ·intro i a b ha hb;rcases h.bst i a b ha hb with h1 | ⟨u,hu,e,hle⟩
   ·exact .inl h1
   ·obtain ⟨v,hv,hlu⟩:=huc u hu;have:=hlu.len;exact .inr ⟨v,hv,hlu.id.symm.trans e,by omega⟩
  ·intro i a ha h5;obtain ⟨u,hu,e,hd⟩:=h.ends i a ha h5;obtain ⟨v,hv,hlu⟩:=huc u hu;exact ⟨v,hv,hlu.id.symm.trans e,(hlu.fin hd).1⟩
  ·simp only [List.length_append];omega
theorem D7Y(k:Nat)(w:A5)(h:WIw k w)(j:Int)(hj:j<9223372036854775807):∃ b w',A02 w j=some (b,w',())∧WIw k w':=by
 obtain ⟨⟨st,held⟩,cls,busy,asks,tells,best⟩:=w;obtain ⟨c,uc,h⟩:=h;simp only at h;have hn:=h.n6;have hl6:=h.l6;have hlb:=h.lb;have hlt:=h.lt;have same:WIw k (((st,held),(cls,(busy,(asks,(tells,best))))):A5):=⟨c,uc,h⟩;simp only [A02,A5y,N1,bO];rw [w64 (n:=(tells.length:Int)-1) (by omega) (by omega)];by_cases hr:0≤j∧j≤(tells.length:Int)-1
 ·obtain ⟨j,rfl⟩:∃ q:Nat,j=(q:Int):=⟨j.toNat,by omega⟩;have hjl:j<tells.length:=by omega
  obtain ⟨a,ha⟩:∃ x,tells[j]? = some x:=⟨_,List.getElem?_eq_getElem hjl⟩;obtain ⟨i,cl,hcl,hai,hfit,htold⟩:=h.tell a (List.mem_of_getElem? ha);have hg:=h.cl i cl hcl;have hic:i<cls.length:=(List.getElem?_eq_some_iff.1 hcl).1;obtain ⟨b,hb⟩:∃ x,busy[i]? = some x:=⟨_,List.getElem?_eq_getElem (show i<busy.length by omega)⟩;obtain ⟨bt0,hbt⟩:∃ x,best[i]? = some x:=⟨_,List.getElem?_eq_getElem (show i<best.length by omega)⟩;have hct:∀ i':Nat,cH i' tells=cH i' (rm tells j)+if (i':Int)=a.1 then 1 else 0:=fun i'=>by
   have:=C5K (fun x:C4=>decide (x.1=(i':Int))) ha;unfold cH;rw [this];by_cases e:(i':Int)=a.1
   ·rw [if_pos e,if_pos (by simp [e])]
   ·rw [if_neg e,if_neg (by simp;omega)]
  have hpend:=h.cnt i b hb;have hcti:=hct i;rw [if_pos hai.symm] at hcti;have hbt':b=true:=by
   cases b with
   | true=>rfl
   | false=>simp only [Bool.false_eq_true,if_false] at hpend;omega
  subst hbt';simp only [if_true] at hpend;have hz:cW i asks=0∧cH i held=0∧cH i (rm tells j)=0:=by omega
  obtain ⟨hearG,he1,he2,he5,hov⟩:=C9F hg hfit;have hrm:([]++(tells.take j).drop 0)++(tells.take tells.length).drop ((j:Int)+1).toNat=rm tells j:=by
   unfold rm;rw [show ((j:Int)+1).toNat=j+1 by omega,List.drop_zero,List.take_length];rfl
  obtain ⟨who,resp⟩:=a;simp only at hai hfit htold hearG he1 he2 he5 hov ha hct;subst hai;rw [A0 hr,U5 B2 ha];simp only [Bool.not_true,cond_false];rw [w64 (n:=(j:Int)+1) (by omega) (by omega),A0 (show (0:Int)≤(j:Int) by omega),A0 (show (j:Int)<(tells.length:Int) by omega),A0 (show (j:Int)≤(tells.length:Int) by omega),
   A0 (show (0:Int)≤(j:Int)+1 by omega),A0 (show (j:Int)+1≤(tells.length:Int) by omega),A0 (by simp;omega),A0 (by simp;omega),A0 (by simp;omega),A0 (by simp;omega),
   A0 (show (0:Int)≤(i:Int) by omega),A0 (show (i:Int)<(busy.length:Int) by omega),A0 (show (i:Int)<(cls.length:Int) by omega),U5 .bool hb,U5 C1z hcl,B7j,C50,hov]
  simp only [cond_true,Bool.not_false,bO,Int.toNat_natCast];rw [hrm];rw [A0 (show (i:Int)<(best.length:Int) by omega),U5 (.int .i64) hbt];have main:∀ best',best'.length=cls.length→(∀ (i':Nat) (b':Int),best'[i']? = some b'→(i'≠i∧best[i']? = some b')∨(i' = i∧(b' = bt0∨b' = resp.2)))→
    WIw k (((st,held),(cls.set i (hear cl resp),(busy.set i false,(asks,(rm tells j,best'))))):A5):=fun best' hbl hbb=>by
   refine wiw (c:=c) (uc:=uc) ?_;have hsetn:∀ (i':Nat) (x:A6),(cls.set i (hear cl resp))[i']? = some x→(i' = i∧x=hear cl resp)∨(i'≠i∧cls[i']? = some x):=fun i' x hx=>A9W hx
   have hget:∀ (i':Nat) (x:A6),i'≠i→cls[i']? = some x→(cls.set i (hear cl resp))[i']? = some x:=fun i' x hne hx=>by rw [List.getElem?_set_ne (fun e=>hne e.symm)];exact hx
   have hgeti:(cls.set i (hear cl resp))[i]? = some (hear cl resp):=by rw [List.getElem?_set_self hic]
   refine {h with n6:=by simp only [List.length_set];exact h.n6,lb:=by simp only [List.length_set];exact h.lb,lt:=by simp only [List.length_set];exact hbl,dist:=?_,cl:=?_,cnt:=?_,dn:=?_,ask:=?_,hld:=?_,tell:=?_,bst:=?_,ends:=?_,oku:=?_,l6:=?_}
   ·intro p q x y hx hy e;rcases hsetn p x hx with ⟨e1,rfl⟩ | ⟨n1,hx1⟩<;>rcases hsetn q y hy with ⟨e2,rfl⟩ | ⟨n2,hy1⟩
    ·exact e1.trans e2.symm
    ·exact e1.trans (h.dist _ _ cl y hcl hy1 (by rw [← he1];exact e))
    ·exact (h.dist _ _ x cl hx1 hcl (by rw [← he1];exact e)).trans e2.symm
    ·exact h.dist _ _ x y hx1 hy1 e
   ·intro p x hx;rcases hsetn p x hx with ⟨_,rfl⟩ | ⟨_,hx⟩
    ·exact hearG
    ·exact h.cl p x hx
   ·intro p b' hb';rcases A9W hb' with ⟨rfl,rfl⟩ | ⟨hne,hb'⟩
    ·simp only [Bool.false_eq_true,if_false];omega
    ·have h1:=h.cnt p b' hb';have h2:=hct p;rw [if_neg (by omega)] at h2;omega
   ·intro p x hx h5;rcases hsetn p x hx with ⟨rfl,rfl⟩ | ⟨hne,hx⟩
    ·rw [List.getElem?_set_self (show p<busy.length by omega)]
    ·rw [List.getElem?_set_ne (fun e=>hne e.symm)];exact h.dn p x hx h5
   ·intro x hx;obtain ⟨i',a',h1,h2,h3⟩:=h.ask x hx;have hne:i'≠i:=fun e=>by
     subst e;exact A3i hz.1 hx (decide_eq_true h2)
    exact ⟨i',a',hget i' a' hne h1,h2,h3⟩
   ·intro x hx;obtain ⟨i',a',h1,h2,h3⟩:=h.hld x hx;have hne:i'≠i:=fun e=>by
     subst e;exact A3i hz.2.1 hx (decide_eq_true h2)
    exact ⟨i',a',hget i' a' hne h1,h2,h3⟩
   ·intro x hx;obtain ⟨i',a',h1,h2,h3⟩:=h.tell x (C0m hx);have hne:i'≠i:=fun e=>by
     subst e;exact A3i hz.2.2 hx (decide_eq_true h2)
    exact ⟨i',a',hget i' a' hne h1,h2,h3⟩
   ·intro p x b' hx hb';rcases hsetn p x hx with ⟨rfl,rfl⟩ | ⟨hne,hx⟩
    ·rw [he1];rcases hbb p b' hb' with ⟨hne,_⟩ | ⟨_,rfl | rfl⟩
     ·exact absurd rfl hne
     ·exact h.bst p cl _ hcl hbt
     ·exact htold.1
    ·rcases hbb p b' hb' with ⟨_,hb'⟩ | ⟨e,_⟩
     ·exact h.bst p x b' hx hb'
     ·exact absurd e hne
   ·intro p x hx h5;rcases hsetn p x hx with ⟨rfl,rfl⟩ | ⟨hne,hx⟩
    ·obtain ⟨g1,g2⟩:=he5 h5;rw [he1];exact htold.2 g1 g2
    ·exact h.ends p x hx h5
   ·intro u hu;obtain ⟨i',a',h1,h2,h3⟩:=h.oku u hu;by_cases e:i' = i
    ·subst e;rw [hcl] at h1;injection h1 with h1;subst h1
     exact ⟨i',_,hgeti,by rw [he1];exact h2,by rw [he2];exact h3⟩
    ·exact ⟨i',a',hget i' a' e h1,h2,h3⟩
   ·have:=B2Y hjl;omega
  by_cases hgt:resp.2>bt0
  ·rw [A0 hgt];simp only [cond_true];refine ⟨true,_,rfl,main (best.set i resp.2) (by rw [List.length_set];exact hlt) fun i' b' hb'=>?_⟩;rcases A9W hb' with ⟨e,rfl⟩ | ⟨hne,hb'⟩
   ·exact .inr ⟨e,.inr rfl⟩
   ·exact .inl ⟨hne,hb'⟩
  ·rw [A3 hgt];simp only [cond_true,cond_false];refine ⟨true,_,rfl,main best hlt fun i' b' hb'=>?_⟩;by_cases e:i' = i
   ·subst e;rw [hbt] at hb';injection hb' with hb'
    exact .inr ⟨rfl,.inl hb'.symm⟩
   ·exact .inl ⟨e,hb'⟩
 ·rw [A3 hr];exact ⟨false,_,rfl,same⟩
theorem B5p(l:List C4)(i:Int)(hl:l.length≤1048576):A2g l i=some (l.filter (fun x=>!decide (x.1=i)),()):=by
 simp only [A2g,A9z];refine D3 (A3I l i) (fun j=>((j:Int),(l.take j).filter (fun x=>!decide (x.1=i)),())) l.length (l.filter (fun x=>!decide (x.1=i)),()) (fun j hj=>?_) ?_
 ·have h1:((j:Int)<(l.length:Int)):=by omega
  have h2:(0:Int)≤(j:Int):=by omega
  have hlen:=List.length_filter_le (fun x:C4=>!decide (x.1=i)) (l.take j);rw [List.length_take] at hlen;simp only [A3I,A0 h1,A0 h2,cond_true];rw [U5 B2 (List.getElem?_eq_getElem hj),w64 (by omega) (by omega),List.take_succ_eq_append_getElem hj,List.filter_append];by_cases e:l[j].1=i
  ·rw [A0 e];simp only [Bool.not_true,cond_false];have:([l[j]].filter fun x=>!decide (x.1=i)) = []:=by simp [e]
   rw [this,List.append_nil];rfl
  ·rw [A3 e];simp only [Bool.not_false,cond_true];rw [A0 (by simp;omega),A0 (by simp;omega)];have:([l[j]].filter fun x=>!decide (x.1=i)) = [l[j]]:=by simp [e]
   rw [this];rfl
 ·simp only [A3I,List.take_length];rw [A3 (by omega)];rfl
theorem C5L(w:A5)(i:Int)(hl:w.2.2.2.1.length≤1048576):B8 (A1m w i) (0,[],())=some (w.2.2.2.1.filter (fun x=>!decide (x.1=i)),()):=by
 refine D3 (A1m w i) (fun j=>((j:Int),(w.2.2.2.1.take j).filter (fun x=>!decide (x.1=i)),())) w.2.2.2.1.length (w.2.2.2.1.filter (fun x=>!decide (x.1=i)),()) (fun j hj=>?_) ?_
 ·have h1:((j:Int)<(w.2.2.2.1.length:Int)):=by omega
  have h2:(0:Int)≤(j:Int):=by omega
  have hlen:=List.length_filter_le (fun x:K9=>!decide (x.1=i)) (w.2.2.2.1.take j);rw [List.length_take] at hlen;simp only [A1m,A0 h1,A0 h2,cond_true];rw [U5 D0N (List.getElem?_eq_getElem hj),w64 (by omega) (by omega),List.take_succ_eq_append_getElem hj,List.filter_append];by_cases e:w.2.2.2.1[j].1=i
  ·rw [A0 e];simp only [Bool.not_true,cond_false];have:([w.2.2.2.1[j]].filter fun x=>!decide (x.1=i)) = []:=by simp [e]
   rw [this,List.append_nil];rfl
  ·rw [A3 e];simp only [Bool.not_false,cond_true];rw [A0 (by simp;omega),A0 (by simp;omega)];have:([w.2.2.2.1[j]].filter fun x=>!decide (x.1=i)) = [w.2.2.2.1[j]]:=by simp [e]
   rw [this];rfl
 ·simp only [A1m,List.take_length];rw [A3 (by omega)];rfl
theorem A6x{α:Type}{f:α→Int}{i j:Int}(hne:j≠i)(l:List α):(l.filter fun x=>!decide (f x=i)).countP (fun x=>decide (f x=j))=l.countP (fun x=>decide (f x=j)):=by
 rw [List.countP_filter];refine List.countP_congr fun x _=>?_
 simp only [Bool.and_eq_true,decide_eq_true_eq,Bool.not_eq_true',decide_eq_false_iff_not];omega
theorem A6y{α:Type}{f:α→Int}{i:Int}(l:List α):(l.filter fun x=>!decide (f x=i)).countP (fun x=>decide (f x=i))=0:=by
 rw [List.countP_eq_zero];intro x hx;have:=(List.mem_filter.1 hx).2;simpa using this
theorem E3o(k:Nat)(w:A5)(h:WIw k w)(i:Int)(hi:i<9223372036854775807):∃ b w',A0l w i=some (b,w',())∧WIw k w':=by
 obtain ⟨⟨st,held⟩,cls,busy,asks,tells,best⟩:=w;obtain ⟨c,uc,h⟩:=h;simp only at h;have hn:=h.n6;have hl6:=h.l6;have hla:=h.la;have hlh:=h.lh;have hlb:=h.lb;have hlt:=h.lt;have same:WIw k (((st,held),(cls,(busy,(asks,(tells,best))))):A5):=⟨c,uc,h⟩;simp only [A0l,A7U,N1,bO];rw [w64 (n:=(cls.length:Int)-1) (by omega) (by omega)];by_cases hr:0≤i∧i≤(cls.length:Int)-1
 ·obtain ⟨i,rfl⟩:∃ q:Nat,i=(q:Int):=⟨i.toNat,by omega⟩;have hic:i<cls.length:=by omega
  obtain ⟨cl,hcl⟩:∃ x,cls[i]? = some x:=⟨_,List.getElem?_eq_getElem hic⟩;have hg:=h.cl i cl hcl;obtain ⟨_,h400,_⟩:=U4 hg;obtain ⟨cutG,he1,he2,he5⟩:=A8R hg;rw [A0 hr,C5L (((st,held),(cls,(busy,(asks,(tells,best))))):A5) (i:Int) (by show asks.length≤_;omega),B5p tells _ (by omega),B5p held _ (by omega),A0 (show (0:Int)≤(i:Int) by omega),A0 (show (i:Int)<(cls.length:Int) by omega),A0 (show (i:Int)<(busy.length:Int) by omega),U5 C1z hcl,A9V cl (A9X hg) (by omega)];simp only [Bool.not_true,cond_false,cond_true,bO,Int.toNat_natCast];refine ⟨true,_,rfl,wiw (c:=c) (uc:=uc) ?_⟩;have hsetn:∀ (i':Nat) (x:A6),(cls.set i (G5 cl))[i']? = some x→(i' = i∧x=G5 cl)∨(i'≠i∧cls[i']? = some x):=fun i' x hx=>A9W hx
  have hget:∀ (i':Nat) (x:A6),i'≠i→cls[i']? = some x→(cls.set i (G5 cl))[i']? = some x:=fun i' x hne hx=>by rw [List.getElem?_set_ne (fun e=>hne e.symm)];exact hx
  have hgeti:(cls.set i (G5 cl))[i]? = some (G5 cl):=by rw [List.getElem?_set_self hic]
  have hni:∀ {x:Int} {i':Nat},(!decide (x=(i:Int)))=true→x=(i':Int)→i'≠i:=fun hx e hh=>by
   subst hh;rw [e] at hx;simp at hx
  refine {h with n6:=by simp only [List.length_set];exact h.n6,lb:=by simp only [List.length_set];exact h.lb,lt:=by simp only [List.length_set];exact h.lt,dist:=?_,cl:=?_,cnt:=?_,dn:=?_,ask:=?_,hld:=?_,tell:=?_,bst:=?_,ends:=?_,oku:=?_,la:=Nat.le_trans (List.length_filter_le _ _) hla,l6:=Nat.le_trans (List.length_filter_le _ _) hl6,lh:=Nat.le_trans (List.length_filter_le _ _) hlh}
  ·intro p q x y hx hy e;rcases hsetn p x hx with ⟨e1,rfl⟩ | ⟨n1,hx1⟩<;>rcases hsetn q y hy with ⟨e2,rfl⟩ | ⟨n2,hy1⟩
   ·exact e1.trans e2.symm
   ·exact e1.trans (h.dist _ _ cl y hcl hy1 (by rw [← he1];exact e))
   ·exact (h.dist _ _ x cl hx1 hcl (by rw [← he1];exact e)).trans e2.symm
   ·exact h.dist _ _ x y hx1 hy1 e
  ·intro p x hx;rcases hsetn p x hx with ⟨_,rfl⟩ | ⟨_,hx⟩
   ·exact cutG
   ·exact h.cl p x hx
  ·intro p b' hb';rcases A9W hb' with ⟨rfl,rfl⟩ | ⟨hne,hb'⟩
   ·simp only [Bool.false_eq_true,if_false];have e1:cW p (asks.filter fun x=>!decide (x.1=(p:Int)))=0:=A6y (f:=fun x:K9=>x.1) asks;have e2:cH p (held.filter fun x=>!decide (x.1=(p:Int)))=0:=A6y (f:=fun x:C4=>x.1) held;have e3:cH p (tells.filter fun x=>!decide (x.1=(p:Int)))=0:=A6y (f:=fun x:C4=>x.1) tells;rw [e1,e2,e3]
   ·have h1:=h.cnt p b' hb';have hne':(p:Int)≠(i:Int):=by omega
    have e1:cW p (asks.filter fun x=>!decide (x.1=(i:Int)))=cW p asks:=A6x (f:=fun x:K9=>x.1) hne' asks;have e2:cH p (held.filter fun x=>!decide (x.1=(i:Int)))=cH p held:=A6x (f:=fun x:C4=>x.1) hne' held;have e3:cH p (tells.filter fun x=>!decide (x.1=(i:Int)))=cH p tells:=A6x (f:=fun x:C4=>x.1) hne' tells;rw [e1,e2,e3];exact h1
  ·intro p x hx h5;rcases hsetn p x hx with ⟨rfl,rfl⟩ | ⟨hne,hx⟩
   ·rw [List.getElem?_set_self (show p<busy.length by omega)]
   ·rw [List.getElem?_set_ne (fun e=>hne e.symm)];exact h.dn p x hx h5
  ·intro x hx;obtain ⟨hx,hxi⟩:=List.mem_filter.1 hx;obtain ⟨i',a',h1,h2,h3⟩:=h.ask x hx;exact ⟨i',a',hget i' a' (hni hxi h2) h1,h2,h3⟩
  ·intro x hx;obtain ⟨hx,hxi⟩:=List.mem_filter.1 hx;obtain ⟨i',a',h1,h2,h3⟩:=h.hld x hx;exact ⟨i',a',hget i' a' (hni hxi h2) h1,h2,h3⟩
  ·intro x hx;obtain ⟨hx,hxi⟩:=List.mem_filter.1 hx;obtain ⟨i',a',h1,h2,h3⟩:=h.tell x hx;exact ⟨i',a',hget i' a' (hni hxi h2) h1,h2,h3⟩
  ·intro p x b' hx hb';rcases hsetn p x hx with ⟨rfl,rfl⟩ | ⟨hne,hx⟩
   ·rw [he1];exact h.bst p cl b' hcl hb'
   ·exact h.bst p x b' hx hb'
  ·intro p x hx h5;rcases hsetn p x hx with ⟨rfl,rfl⟩ | ⟨hne,hx⟩
   ·rw [he1];exact h.ends p cl hcl (he5 h5)
   ·exact h.ends p x hx h5
  ·intro u hu;obtain ⟨i',a',h1,h2,h3⟩:=h.oku u hu;by_cases e:i' = i
   ·subst e;rw [hcl] at h1;injection h1 with h1;subst h1
    exact ⟨i',_,hgeti,by rw [he1];exact h2,by rw [he2];exact h3⟩
   ·exact ⟨i',a',hget i' a' e h1,h2,h3⟩
 ·rw [A3 hr];exact ⟨false,_,rfl,same⟩
theorem E0y(k:Nat)(hk:k≤9999)(w:A5)(h:WIw k w)(ke:List Bool):∃ b w',W7 w ke=some (b,w',())∧WIw (k+1) w':=by
 obtain ⟨⟨st,held⟩,cls,busy,asks,tells,best⟩:=w;obtain ⟨c,uc,h⟩:=h;simp only at h;have hn:=h.n6;have hlb:=h.lb;have hlt:=h.lt;have hep:=h.ep;obtain ⟨m,us,g1,g2,g3,g4,g5,g6,g7⟩:=C9A h.dur ke (by omega);have hfl:=C0h st.1 ke h.dur.g.dk;have hop:E1 (B6Q st.1 ke)=_:=C0i g7;simp only [W7,A4S,hfl,hop,bO,Bool.not_true,cond_false];have key:=D3 (R4 A0i) (fun j=>((j:Int),(V0 (R6 st.1.1 st.1.2 ke) us).2.1,(V0 (R6 st.1.1 st.1.2 ke) us).2.2.1,(V0 (R6 st.1.1 st.1.2 ke) us).2.2.2,([]:List K9),([]:List C4),A25 (cls.map G5) cls j,A25 (List.replicate cls.length false) busy j,best,(V0 (R6 st.1.1 st.1.2 ke) us).1.1,(V0 (R6 st.1.1 st.1.2 ke) us).1.2,())) cls.length
  (true,(((((V0 (R6 st.1.1 st.1.2 ke) us).1.1,(V0 (R6 st.1.1 st.1.2 ke) us).1.2),((V0 (R6 st.1.1 st.1.2 ke) us).2.1,((V0 (R6 st.1.1 st.1.2 ke) us).2.2.1,(V0 (R6 st.1.1 st.1.2 ke) us).2.2.2))),[]),(cls.map G5,(List.replicate cls.length false,([],([],best))))),()) (fun j hj=>?_) ?_
 ·refine ⟨true,_,key,wiw (c:=m) (uc:=us) ?_⟩;have hle:B7q us st.2.2.2:=by
   have h1:=h.dur.g.up;rw [← List.take_length (l:=B6 st.1.1)] at h1;exact C0l g2 g4 h1 h.nd
  have hle2:B7q uc us:=C0l g1 h.fuc g4 h.nd;have hsc:B6 (V0 (R6 st.1.1 st.1.2 ke) us).1.1=(B6 st.1.1).take m:=g3;have hlen:((B6 st.1.1).take m).length=m:=by rw [List.length_take];omega
  have hdur:=D5T g7;rw [g3,hlen] at hdur;have hmap:∀ (i:Nat) (x:A6),(cls.map G5)[i]? = some x→∃ a,cls[i]? = some a∧x=G5 a:=fun i x hx=>by
   rw [List.getElem?_map] at hx;cases ha:cls[i]? with
   | none=>rw [ha] at hx;cases hx
   | some a=>rw [ha] at hx;injection hx with hx;exact ⟨a,rfl,hx.symm⟩
  exact {
   dur:=hdur
   ep:=by show A2c (R6 st.1.1 st.1.2 ke)+1≤((k+1:Nat):Int);omega
   nd:=fun r hr=>by rw [hsc] at hr;exact h.nd r (List.mem_of_mem_take hr)
   fuc:=by rw [hsc,List.take_take,Nat.min_self];exact g4
   n6:=by rw [List.length_map];exact h.n6
   lb:=by rw [List.length_map,List.length_replicate]
   lt:=by rw [List.length_map];exact h.lt
   dist:=fun p q x y hx hy e=>by
    obtain ⟨a,ha,rfl⟩:=hmap p x hx;obtain ⟨b,hb,rfl⟩:=hmap q y hy;rw [(A8R (h.cl p a ha)).2.1,(A8R (h.cl q b hb)).2.1] at e;exact h.dist p q a b ha hb e
   cl:=fun p x hx=>by
    obtain ⟨a,ha,rfl⟩:=hmap p x hx;exact (A8R (h.cl p a ha)).1
   cnt:=fun p b hb=>by
    have:=(List.mem_replicate.1 (List.mem_of_getElem? hb)).2;subst this;rfl
   dn:=fun p x hx h5=>by
    obtain ⟨a,ha,rfl⟩:=hmap p x hx;have hp:=(List.getElem?_eq_some_iff.1 ha).1;rw [List.getElem?_replicate,if_pos hp]
   ask:=fun x hx=>by cases hx
   hld:=fun x hx=>by cases hx
   tell:=fun x hx=>by cases hx
   bst:=fun p x b hx hb=>by
    obtain ⟨a,ha,rfl⟩:=hmap p x hx;rw [(A8R (h.cl p a ha)).2.1];rcases h.bst p a b ha hb with h1 | ⟨u,hu,e,hl⟩
    ·exact .inl h1
    ·obtain ⟨v,hv,hlu⟩:=hle2 u hu;have:=hlu.len;exact .inr ⟨v,hv,hlu.id.symm.trans e,by omega⟩
   ends:=fun p x hx h5=>by
    obtain ⟨a,ha,rfl⟩:=hmap p x hx;obtain ⟨_,e1,_,e5⟩:=A8R (h.cl p a ha);rw [e1];obtain ⟨u,hu,e,hd⟩:=h.ends p a ha (e5 h5);obtain ⟨v,hv,hlu⟩:=hle2 u hu;exact ⟨v,hv,hlu.id.symm.trans e,(hlu.fin hd).1⟩
   oku:=fun u hu=>by
    obtain ⟨v,hv,hlu⟩:=hle u hu;obtain ⟨i,a,ha,e,hok⟩:=h.oku v hv;obtain ⟨_,e1,e2,_⟩:=A8R (h.cl i a ha);exact ⟨i,G5 a,by rw [List.getElem?_map,ha];rfl,by rw [e1];exact hlu.id.trans e,by rw [e2];exact E3m hlu hok⟩
   la:=Nat.zero_le _
   l6:=Nat.zero_le _
   lh:=Nat.zero_le _}
 ·have hlm:(cls.map G5).length=cls.length:=List.length_map _;have hlr:(List.replicate cls.length false).length=busy.length:=by rw [List.length_replicate];omega
  have l1:=A8Q (l:=cls.map G5) (x:=cls) hlm j;have l2:=A8Q (l:=List.replicate cls.length false) (x:=busy) hlr j;have gc:=B4Y (l:=cls.map G5) (x:=cls) hlm hj;rw [List.getElem?_eq_getElem hj] at gc;have hg:=h.cl j _ (List.getElem?_eq_getElem hj);obtain ⟨_,h400,_⟩:=U4 hg;simp only [R4,l1,l2];rw [A0 (show (j:Int)<(cls.length:Int) by omega),A0 (show (0:Int)≤(j:Int) by omega),U5 C1z gc,A9V _ (A9X hg) (by omega),A0 (show (j:Int)<(busy.length:Int) by omega),w64 (by omega) (by omega)];simp only [cond_true,bO,Int.toNat_natCast];have e1:=A6e (l:=cls.map G5) (x:=cls) hlm (i:=j) (by omega);have e2:=A6e (l:=List.replicate cls.length false) (x:=busy) hlr (i:=j) (by rw [List.length_replicate];exact hj);rw [List.getElem_map] at e1;rw [List.getElem_replicate] at e2;rw [e1,e2];rfl
 ·have e1:A25 (cls.map G5) cls cls.length=cls.map G5:=by unfold A25;rw [List.drop_length,List.append_nil,List.take_of_length_le (by simp)]
  have e2:A25 (List.replicate cls.length false) busy cls.length=List.replicate cls.length false:=by unfold A25;rw [← hlb,List.drop_length,List.append_nil,List.take_of_length_le (by simp)]
  simp only [R4,e1,e2,List.length_map];rw [A3 (by omega)];rfl
theorem B5q{k:Nat}{w:A5}(h:WIw k w):WIw (k+1) w:=by
 obtain ⟨c,uc,h⟩:=h;exact ⟨c,uc,{h with ep:=by have:=h.ep;omega}⟩
theorem E3p(k:Nat)(hk:k≤9999)(w:A5)(h:WIw k w)(e:A7v)(he:e.2.1<9223372036854775807):∃ b w',A0Y w e=some (b,w',())∧WIw (k+1) w':=by
 simp only [A0Y,A9F];by_cases h1:e.1=1
 ·obtain ⟨b,w',q,hw⟩:=D7W k w h e.2.1 he;rw [A0 h1,q];exact ⟨b,w',rfl,B5q hw⟩
 rw [A3 h1];by_cases h2:e.1=2
 ·obtain ⟨b,w',q,hw⟩:=D2g k w h e.2.1 he;rw [A0 h2,q];exact ⟨b,w',rfl,B5q hw⟩
 rw [A3 h2];by_cases h3:e.1=3
 ·obtain ⟨b,w',q,hw⟩:=D7X k w h;rw [A0 h3,q];exact ⟨b,w',rfl,B5q hw⟩
 rw [A3 h3];by_cases h4:e.1=4
 ·obtain ⟨b,w',q,hw⟩:=D7Y k w h e.2.1 he;rw [A0 h4,q];exact ⟨b,w',rfl,B5q hw⟩
 rw [A3 h4];by_cases h5:e.1=5
 ·obtain ⟨b,w',q,hw⟩:=E3o k w h e.2.1 he;rw [A0 h5,q];exact ⟨b,w',rfl,B5q hw⟩
 rw [A3 h5];by_cases h6:e.1=6
 ·obtain ⟨b,w',q,hw⟩:=E0y k hk w h e.2.2;rw [A0 h6,q];exact ⟨b,w',rfl,hw⟩
 rw [A3 h6];exact ⟨false,w,rfl,B5q h⟩
def C0n(id:ByteArray)(f:List Int):P1:=if G7 (id,f,1,0) then (id,f,1,0) else (⟨#[]⟩,[],0,0)
theorem C5M(id:ByteArray)(f:List Int)(h:id.size≤maxLen)(h2:f.length≤140737488355328):A00 id f=some (C0n id f,()):=by
 simp only [A00,B00];rw [A0 (by simp;omega),A0 (by simp;omega)];simp only [cond_true,List.nil_append];rw [A2r _ h];simp only [A4,C0n];cases G7 (id,f,1,0)<;>simp
theorem C43{c:A6}{r:L8}(hc:ClG c)(h:Fits c r):T3 r=true:=by
 have hlen:c.2.1.length≤400:=(U4 hc).2.1;have key:∀ a b:Int,(100≤a∧a≤599)→(-1≤b∧b≤1000000000)→T3 (a,b)=true:=fun a b h1 h2=>by
  simp only [T3];rw [A0 h1,A0 h2];rfl
 rcases h with ⟨_,h⟩ | ⟨_,h⟩ | ⟨_,h⟩ | ⟨_,h⟩
 ·rcases h with rfl | ⟨o,ho,rfl⟩ | rfl<;>exact key _ _ (by omega) (by omega)
 ·rcases h with rfl | ⟨o,ho,rfl⟩<;>exact key _ _ (by omega) (by omega)
 ·rcases h with ⟨o,ho,rfl | rfl⟩ | rfl | rfl<;>exact key _ _ (by omega) (by omega)
 ·rcases h with rfl | rfl | ⟨o,ho,rfl⟩ | rfl<;>exact key _ _ (by omega) (by omega)
theorem D5X{c:A6}{r:A1e}{d:List Int}(hc:ClG c)(hq:G6 c=(r,d,true,())):A1I r=true∧r.2.1.size≤1048576∧d.length≤400:=by
 obtain ⟨hid,h400,_,_,o0,o1⟩:=U4 hc;have hcs:=A9X hc;have hx:A2t c.2.1 ^^^ 4294967295<2 ^ 32:=Nat.xor_lt_two_pow (A9P hc.byt) (by omega);have h8:c.1.size≤8:=by simp only [idB,Bool.and_eq_true,decide_eq_true_eq] at hid;omega
 have hl:=B4Q c;have key:∀ a b:Int,(1≤a∧a≤6)→(0≤b∧b≤B2Q a)→A1I (a,(c.1,b))=true:=fun a b h1 h2=>by
  simp only [A1I];rw [A0 h1,A0 h2,hid];rfl
 have e:(G6 c).2.2.1=true→A1I (G6 c).1=true∧(G6 c).1.2.1.size≤1048576:=by
  unfold G6 B8f
  repeat' split
  all_goals first | exact fun h=>⟨key _ _ (by omega) (by simp [B2Q]<;>omega),by show c.1.size≤_;omega⟩ | (intro h;cases h)
 rw [hq] at e hl;obtain ⟨e1,e2⟩:=e rfl;exact ⟨e1,e2,by have:d.length≤c.2.1.length:=hl;omega⟩
theorem A5l{α:Type}{l:List α}{i:Nat}{x:α}(h:l[i]? = some x):i<l.length:=(List.getElem?_eq_some_iff.1 h).1
theorem D2h{cls:List A6}(hc:∀ (i:Nat) (a:A6),cls[i]? = some a→ClG a){l:List C4}(h:∀ h∈l,∃ (i:Nat) (cl:A6),cls[i]? = some cl∧h.1=(i:Int)∧Fits cl h.2):A1J cls.length l=true:=by
 unfold A1J;refine List.all_eq_true.2 fun i hi=>?_
 have hi:=List.mem_range.1 hi;rw [C3 (k:=B2) (xs:=l) hi];obtain ⟨j,cl,g1,g2,g3⟩:=h _ (List.getElem_mem hi);have:=A5l g1;simp only [C96];rw [C43 (hc j cl g1) g3,A0 (by omega)];rfl
theorem D5Y{k c:Nat}{uc:List TUp}{st:A7}{held cls busy asks tells best}(h:WI k c uc st held cls busy asks tells best):W5 (((st,held),(cls,(busy,(asks,(tells,best))))):A5)=some (true,()):=by
 have hn:=h.n6;have hlb:=h.lb;have hlt:=h.lt;have inner:∀ i,i<cls.length→B8 (L5 ((i:Int),()) (((st,held),(cls,(busy,(asks,(tells,best))))):A5)) (0,())=some (.inl (((i+1:Nat):Int),())):=fun i hi=>by
  refine D3 _ (fun j=>((j:Int),())) i _ (fun j hj=>?_) ?_
  ·have hne:¬ ((rd B3 cls (j:Int)).1.toList == (rd B3 cls (i:Int)).1.toList)=true:=fun e=>by
    simp only [beq_iff_eq] at e;have e2:=B5k e;rw [C3 (k:=B3) (xs:=cls) hi,C3 (k:=B3) (xs:=cls) (show j<cls.length by omega)] at e2;have:=h.dist j i _ _ (List.getElem?_eq_getElem (show j<cls.length by omega)) (List.getElem?_eq_getElem hi) e2;omega
   simp only [L5];rw [A0 (show (j:Int)<(i:Int) by omega),A0 (show (0:Int)≤(j:Int) by omega),A0 (show (j:Int)<(cls.length:Int) by omega),A0 (show (0:Int)≤(i:Int) by omega),A0 (show (i:Int)<(cls.length:Int) by omega),Bool.eq_false_iff.2 hne,w64 (by omega) (by omega)];rfl
  ·simp only [L5];rw [A3 (by omega),w64 (by omega) (by omega)];rfl
 simp only [W5,A4M];have key:=D3 (H2 G1 (((st,held),(cls,(busy,(asks,(tells,best))))):A5)) (fun j=>((j:Int),())) cls.length (.inl ()) (fun i hi=>?_) ?_
 ·have key':B8 (H2 G1 (((st,held),(cls,(busy,(asks,(tells,best))))):A5)) (0,())=_:=key;rw [key'];simp only [B7];rw [A0 (by omega),A0 (by omega),A0 (by omega)];rfl
 ·have hg:=h.cl i _ (List.getElem?_eq_getElem hi);have hr:=C3 (k:=B3) (xs:=cls) hi;simp only [H2];rw [A0 (show (i:Int)<(cls.length:Int) by omega),A0 (show (0:Int)≤(i:Int) by omega),hr,A2r _ (A9X hg),hg.ok,inner i hi];rfl
 ·simp only [H2];rw [A3 (by omega)];rfl
theorem E0z{k c:Nat}{uc:List TUp}{st:A7}{held cls busy asks tells best}(h:WI k c uc st held cls busy asks tells best):Sm 1048576 A0G (((st,held),(cls,(busy,(asks,(tells,best))))):A5)∧E2T (((st,held),(cls,(busy,(asks,(tells,best))))):A5):=by
 obtain ⟨hR,hS,hok⟩:=B2Z h;have hU:=hR.up;have hn:=h.n6;have hlb:=h.lb;have hlt:=h.lt;have h60:=h.la;have h6:=h.l6;have h200:=h.lh;have hu:∀ u∈st.2.2.2,u.1.size≤8∧List.length u.2.2.1≤400∧Byt u.2.2.1:=fun u hu=>by
  obtain ⟨i,a,h1,_,h3⟩:=h.oku u hu;have:=h3.len;have:=(U4 (h.cl i a h1)).2.1;have hg:=hU.2.2 u hu;exact ⟨hg.2.2.1,by omega,hg.2.2.2⟩
 have hc:∀ x∈cls,x.1.size≤8∧x.2.1.length≤400∧Byt x.2.1:=fun x hx=>by
  obtain ⟨i,hi,rfl⟩:=List.getElem_of_mem hx;have hg:=h.cl i _ (List.getElem?_eq_getElem hi);obtain ⟨hid,h4,_⟩:=U4 hg;exact ⟨by simp only [idB,Bool.and_eq_true,decide_eq_true_eq] at hid;omega,h4,hg.byt⟩
 refine ⟨⟨⟨⟨⟨⟨hR.dk.1.1,fun x hx=>hR.dk.1.2 x hx⟩,⟨hR.dk.2.1,fun x hx=>hR.dk.2.2 x hx⟩⟩,trivial,trivial,⟨by have:=hU.2.1;show List.length st.2.2.2≤_;omega,fun u hm=>?_⟩⟩,⟨by show held.length≤_;omega,fun x _=>⟨trivial,trivial,trivial⟩⟩⟩,⟨by show cls.length≤_;omega,fun x hx=>?_⟩,⟨by show busy.length≤_;omega,fun _ _=>trivial⟩,⟨by show asks.length≤_;omega,fun x hx=>?_⟩,⟨by show tells.length≤_;omega,fun x _=>⟨trivial,trivial,trivial⟩⟩,⟨by show best.length≤_;omega,fun _ _=>trivial⟩⟩,fun u hm=>(hu u hm).2.2,fun x hx=>(hc x hx).2.2⟩
 ·obtain ⟨g1,g2,_⟩:=hu u hm;exact ⟨by show u.1.size≤_;omega,trivial,⟨by show List.length u.2.2.1≤_;omega,fun _ _=>trivial⟩,trivial⟩
 ·obtain ⟨g1,g2,_⟩:=hc x hx;exact ⟨by show x.1.size≤_;omega,⟨by show x.2.1.length≤_;omega,fun _ _=>trivial⟩,trivial,trivial⟩
 ·obtain ⟨i,cl,g1,_,g3⟩:=h.ask x hx;obtain ⟨_,q2,q3⟩:=D5X (h.cl i cl g1) g3;exact ⟨trivial,⟨trivial,q2,trivial⟩,⟨by show List.length x.2.2≤_;omega,fun _ _=>trivial⟩⟩
theorem C5N{k:Nat}{w:A5}(h:WIw k w):Z0 w=some (true,())∧A0Z w=some (true,()):=by
 obtain ⟨⟨st,held⟩,cls,busy,asks,tells,best⟩:=w;obtain ⟨c,uc,h⟩:=h;simp only at h;obtain ⟨hR,hS,hok⟩:=B2Z h;have hn:=h.n6;have h60:=h.la;have h6:=h.l6;have h200:=h.lh;have hcls:D8c (((st,held),(cls,(busy,(asks,(tells,best))))):A5):=⟨by show cls.length≤_;omega,fun x hx=>by
  obtain ⟨i,hi,rfl⟩:=List.getElem_of_mem hx;exact A9X (h.cl i _ (List.getElem?_eq_getElem hi))⟩
 have hask:∀ a∈asks,a.2.1.2.1.size≤1048576:=fun a ha=>by
  obtain ⟨i,cl,g1,_,g3⟩:=h.ask a ha;exact (D5X (h.cl i cl g1) g3).2.1
 have hW:E3j (((st,held),(cls,(busy,(asks,(tells,best))))):A5):=⟨hR.dk.1,by show held.length≤_;omega,hcls,⟨by show asks.length≤_;omega,fun a ha=>by have:=hask a ha;simp only [maxLen];omega⟩,by show tells.length≤_;omega⟩;obtain ⟨b,e1,e2⟩:=C5B _ hW;have hsv:A0k (st,held)=some (true,()):=by
  simp only [A0k,A7P];have key:=D3 (M4 R3 ((st,held):D8)) (fun j=>((j:Int),())) held.length (.inl ()) (fun i hi=>?_) ?_
  ·have key':B8 (M4 R3 ((st,held):D8)) (0,())=_:=key;rw [key'];simp only [B7];rw [A0 (by omega),hok];rfl
  ·obtain ⟨j,cl,g1,_,g3,_⟩:=h.hld _ (List.getElem_mem hi);simp only [M4];rw [A0 (show (i:Int)<(held.length:Int) by omega),A0 (show (0:Int)≤(i:Int) by omega),C3 (k:=B2) (xs:=held) hi,A9Q,C43 (h.cl j cl g1) g3,w64 (by omega) (by omega)];rfl
  ·simp only [M4];rw [A3 (by omega)];rfl
 have hwho:=B8o (((st,held),(cls,(busy,(asks,(tells,best))))):A5) tells (by simp only [maxLen];omega) hcls.1;have hwho2:=B8o (((st,held),(cls,(busy,(asks,(tells,best))))):A5) held (by simp only [maxLen];omega) hcls.1;rw [show A1J (List.length (((st,held),(cls,(busy,(asks,(tells,best))))):A5).2.1) tells=true from D2h h.cl fun x hx=>by obtain ⟨i,cl,g1,g2,g3,_⟩:=h.tell x hx;exact ⟨i,cl,g1,g2,g3⟩] at hwho;rw [show A1J (List.length (((st,held),(cls,(busy,(asks,(tells,best))))):A5).2.1) held=true from D2h h.cl fun x hx=>by obtain ⟨i,cl,g1,g2,g3,_⟩:=h.hld x hx;exact ⟨i,cl,g1,g2,g3⟩] at hwho2;have hs:Z0 (((st,held),(cls,(busy,(asks,(tells,best))))):A5)=some (true,()):=by
  simp only [Z0,A9D,hsv,D5Y h,hwho,hwho2,bO];rw [A3 (show ¬ (asks.length:Int)>60 by omega),A3 (show ¬ (tells.length:Int)>60 by omega)];have key:=D3 (A01 A5U E4 (((st,held),(cls,(busy,(asks,(tells,best))))):A5)) (fun j=>((j:Int),())) asks.length (true,()) (fun i hi=>?_) ?_
  ·exact key
  ·obtain ⟨j,cl,g1,g2,g3⟩:=h.ask _ (List.getElem_mem hi);obtain ⟨q1,q2,_⟩:=D5X (h.cl j cl g1) g3;have:=A5l g1;simp only [A01];rw [A0 (show (i:Int)<(asks.length:Int) by omega),A0 (show (0:Int)≤(i:Int) by omega),C3 (k:=G0) (xs:=asks) hi,N1,w64 (n:=(cls.length:Int)-1) (by omega) (by omega),g2,A0 (show (0:Int)≤(j:Int)∧(j:Int)≤(cls.length:Int)-1 by omega),C59 _ (by simp only [maxLen];omega),q1,w64 (by omega) (by omega)];rfl
  ·simp only [A01];rw [A3 (by omega)];rfl
 rw [hs] at e1;injection e1 with e1;injection e1 with e1
 subst e1;exact ⟨hs,e2⟩
theorem C5O(st:A7)(id:ByteArray):(∃ u∈st.2.2.2,u.1=id∧B0C st id=(u,true,()))∨B0C st id=D20:=by
 unfold B0C;split
 ·rename_i hlt;have hf:=A2U (fun j=>!((rd kUp st.2.2.2 (j:Int)).1.toList == id.toList)) st.2.2.2.length 0 (by unfold B62 at hlt;omega);have hf2:(!((rd kUp st.2.2.2 (B62 st.2.2.2 id:Int)).1.toList == id.toList))=false:=hf;rw [C3 (k:=kUp) (xs:=st.2.2.2) hlt] at hf2 ⊢;simp only [Bool.not_eq_false',beq_iff_eq] at hf2;exact .inl ⟨_,List.getElem_mem hlt,B5k hf2,rfl⟩
 ·exact .inr rfl
theorem E10{a b:List Int}(hl:a.length≤b.length)(h:a=b.take a.length):beg a b=true:=by
 unfold beg;rw [A0 hl,Bool.true_and];refine List.all_eq_true.2 fun i hi=>?_
 have hi:=List.mem_range.1 hi;rw [C3 (k:=.int .u8) (xs:=a) hi,C3 (k:=.int .u8) (xs:=b) (by omega)];refine decide_eq_true ?_;have:a[i]? = (b.take a.length)[i]?:=by rw [← h]
 rw [List.getElem?_take_of_lt hi,List.getElem?_eq_getElem hi,List.getElem?_eq_getElem (by omega)] at this;injection this
theorem E2e{k:Nat}{w:A5}(h:WIw k w):(List.range w.2.1.length).all (be w)=true∧(List.range w.2.1.length).all (nl w)=true∧(List.range w.2.1.length).all (en w)=true:=by
 obtain ⟨⟨st,held⟩,cls,busy,asks,tells,best⟩:=w;obtain ⟨c,uc,h⟩:=h;simp only at h;obtain ⟨hR,hS,hok⟩:=B2Z h;have hn:=h.n6;have hlt:=h.lt;obtain ⟨hsm,hby⟩:=E0z h;have ho:Ord st.2.2.2:=hR.up.1;have hle:=D7V h;have fnd:∀ (i:Nat) (hi:i<cls.length),∀ u∈st.2.2.2,u.1=(cls[i]).1→OkU (cls[i]).2.1 u:=fun i hi u hu e=>by
  obtain ⟨j,a,g1,g2,g3⟩:=h.oku u hu;have:=h.dist j i a _ g1 (List.getElem?_eq_getElem hi) (by rw [← g2,e]);subst this;rw [List.getElem?_eq_getElem hi] at g1;injection g1 with g1
  rw [g1];exact g3
 have hrd:∀ (i:Nat) (hi:i<cls.length),rd B3 cls (i:Int)=cls[i]:=fun i hi=>C3 (k:=B3) (xs:=cls) hi
 have hbe:(List.range cls.length).all (be (((st,held),(cls,(busy,(asks,(tells,best))))):A5))=true:=List.all_eq_true.2 fun i hi=>by
  have hi:=List.mem_range.1 hi;simp only [be,A6X,hrd i hi];rcases C5O st (cls[i]).1 with ⟨u,hu,e,q⟩ | q
  ·have hk:=fnd i hi u hu e;rw [q];simp only [Bool.not_true,Bool.false_or];rw [E10 hk.len hk.dat,Bool.true_and];exact decide_eq_true hk.want
  ·rw [q];rfl
 have hnl:(List.range cls.length).all (nl (((st,held),(cls,(busy,(asks,(tells,best))))):A5))=true:=List.all_eq_true.2 fun i hi=>by
  have hi:=List.mem_range.1 hi;have hib:i<best.length:=by omega
  have hr:C0Z (((st,held),(cls,(busy,(asks,(tells,best))))):A5) i=best[i]:=C3 (k:=.int .i64) (xs:=best) hib;simp only [nl,hr,A6X,hrd i hi];rcases h.bst i _ _ (List.getElem?_eq_getElem hi) (List.getElem?_eq_getElem hib) with e | ⟨u,hu,e,hl⟩
  ·rw [A0 e];rfl
  ·obtain ⟨v,hv,hlu⟩:=hle u hu;have:=hlu.len;have q:=B8y ho hv;rw [← hlu.id,e] at q;rw [q];simp only;rw [A3 (show ¬ (List.length v.2.2.1:Int)<best[i] by omega)];simp
 have hen:(List.range cls.length).all (en (((st,held),(cls,(busy,(asks,(tells,best))))):A5))=true:=List.all_eq_true.2 fun i hi=>by
  have hi:=List.mem_range.1 hi;simp only [en,A6X,hrd i hi];by_cases h5:(cls[i]).2.2.1=5
  ·obtain ⟨u,hu,e,hd⟩:=h.ends i _ (List.getElem?_eq_getElem hi) h5;obtain ⟨v,hv,hlu⟩:=hle u hu;have q:=B8y ho hv;rw [← hlu.id,e] at q;have hdv:=(hlu.fin hd).1;have hk:=fnd i hi v hv (hlu.id.symm.trans e);have h2:=hk.dat;rw [hk.fin hdv,List.take_length] at h2;rw [q];simp only [hdv,Bool.true_and,h2];simp
  ·rw [A3 h5];rfl
 exact ⟨hbe,hnl,hen⟩
theorem E11{k:Nat}{w:A5}(h:WIw k w):A86 w=some (true,())∧A6S w=some (true,())∧B4F w=some (true,())∧A2l w=some (true,()):=by
 obtain ⟨hbe,hnl,hen⟩:=E2e h;obtain ⟨⟨st,held⟩,cls,busy,asks,tells,best⟩:=w;obtain ⟨c,uc,h⟩:=h;simp only at h hbe hnl hen;have hn:=h.n6;have hlt:=h.lt;obtain ⟨hsm,hby⟩:=E0z h;have hrd:∀ (i:Nat) (hi:i<cls.length),rd B3 cls (i:Int)=cls[i]:=fun i hi=>C3 (k:=B3) (xs:=cls) hi
 have q2:=D22 _ hsm hby;have q4:=D0A _ hsm;have q6:=D8Y _ hsm;refine ⟨by rw [q2];exact congrArg (fun b=>some (b,())) hbe,?_,by rw [q6];exact congrArg (fun b=>some (b,())) hen,?_⟩
 ·rw [q4];refine congrArg (fun b=>some (b,())) (List.all_eq_true.2 fun i hi=>?_);have h1:=List.all_eq_true.1 hnl i hi;simp only;split
  ·rfl
  ·exact h1
 ·simp only [A2l,B02];have key:=D3 (A3J (((st,held),(cls,(busy,(asks,(tells,best))))):A5)) (fun j=>((j:Int),())) cls.length (true,()) (fun i hi=>?_) ?_
  ·exact key
  ·have hg:=h.cl i _ (List.getElem?_eq_getElem hi);simp only [A3J];rw [A0 (show (i:Int)<(cls.length:Int) by omega),A0 (show (0:Int)≤(i:Int) by omega),hrd i hi,A3 hg.lo,w64 (by omega) (by omega)];rfl
  ·simp only [A3J];rw [A3 (by omega)];rfl
theorem B2a(c:H7)(n:Int)(h:Cur c)(hn:n<9223372036854775808):∃ r c',L9 c n=some (r,c',())∧Cur c'∧0≤r∧(r<n∨r=0):=by
 by_cases h0:n≤0
 ·refine ⟨0,c,?_,h,Int.le_refl _,.inr rfl⟩;simp only [L9,A90];rw [A0 h0];rfl
 ·obtain ⟨r,c',e,h1,h2,h3⟩:=A8O c n h (by omega);exact ⟨r,c',e,h1,h2,.inl h3⟩
theorem D2i(c:H7)(w:A5)(h:Cur c)(h1:w.2.1.length≤1000)(h2:w.2.2.2.1.length≤1000)(h3:w.2.2.2.2.1.length≤1000) :
  ∃ e c',K3 c w=some (e,c',w,())∧Cur c'∧e.2.1<9223372036854775807:=by
 obtain ⟨k,c1,q1,hc1,k0,k1⟩:=A8O c 12 h (by omega);simp only [K3,A0Q,q1,bO];obtain ⟨b0,m0⟩:∃ b,(bif decide (k=0) then (some (decide (k=0),()):Option (Bool×Unit)) else bif decide (k=1) then some (decide (k=1),()) else some (decide (k=2),()))=some (b,()):=by
  cases decide (k=0)<;>cases decide (k=1)<;>exact ⟨_,rfl⟩
 rw [m0];simp only [bO];cases b0 with
 | true=>
  obtain ⟨r,c2,q2,hc2,r0,r1⟩:=B2a c1 (w.2.1.length:Int) hc1 (by omega);simp only [cond_true,q2,bO,B7];exact ⟨_,_,rfl,hc2,by simp only;omega⟩
 | false=>
 simp only [cond_false];obtain ⟨b1,m1⟩:∃ b,(bif decide (k=3) then (some (decide (k=3),()):Option (Bool×Unit)) else bif decide (k=4) then some (decide (k=4),()) else some (decide (k=5),()))=some (b,()):=by
  cases decide (k=3)<;>cases decide (k=4)<;>exact ⟨_,rfl⟩
 rw [m1];simp only [bO];cases b1 with
 | true=>
  obtain ⟨r,c2,q2,hc2,r0,r1⟩:=B2a c1 (IntKind.i64.wrap ((w.2.2.2.1.length:Int)+1)) hc1 (by rw [w64 (by omega) (by omega)];omega);rw [w64 (by omega) (by omega)] at r1;simp only [cond_true,q2,bO,B7];exact ⟨_,_,rfl,hc2,by simp only;omega⟩
 | false=>
 simp only [cond_false];obtain ⟨b2,m2⟩:∃ b,(bif decide (k=6) then (some (decide (k=6),()):Option (Bool×Unit)) else some (decide (k=7),()))=some (b,()):=by
  cases decide (k=6)<;>exact ⟨_,rfl⟩
 rw [m2];simp only [bO];cases b2 with
 | true=>
  simp only [cond_true,B7];exact ⟨_,_,rfl,hc1,by simp only;omega⟩
 | false=>
 simp only [cond_false];obtain ⟨b3,m3⟩:∃ b,(bif decide (k=8) then (some (decide (k=8),()):Option (Bool×Unit)) else some (decide (k=9),()))=some (b,()):=by
  cases decide (k=8)<;>exact ⟨_,rfl⟩
 rw [m3];simp only [bO];cases b3 with
 | true=>
  obtain ⟨r,c2,q2,hc2,r0,r1⟩:=B2a c1 (IntKind.i64.wrap ((w.2.2.2.2.1.length:Int)+1)) hc1 (by rw [w64 (by omega) (by omega)];omega);rw [w64 (by omega) (by omega)] at r1;simp only [cond_true,q2,bO,B7];exact ⟨_,_,rfl,hc2,by simp only;omega⟩
 | false=>
 simp only [cond_false];cases decide (k=10) with
 | true=>
  obtain ⟨r,c2,q2,hc2,r0,r1⟩:=B2a c1 (w.2.1.length:Int) hc1 (by omega);simp only [cond_true,q2,bO,B7];exact ⟨_,_,rfl,hc2,by simp only;omega⟩
 | false=>
 simp only [cond_false,B7];obtain ⟨z,e,hz⟩:=Y4 (Y3 A5L w) (fun l=>(20-l.1).toNat)
  (fun l=>0≤l.1∧l.1≤20∧l.2.1=6∧l.2.2.1=0∧Cur (l.2.2.2.1,(l.2.2.2.2.1,l.2.2.2.2.2.1))∧(l.2.2.2.2.2.2.1.length:Int)=l.1) (fun z=>z.2.2.1=w∧Cur z.2.1∧z.1.2.1=0) (fun l hl=>by
   obtain ⟨g0,g1,g2,g3,g4,g5⟩:=hl;simp only [Y3];by_cases hi:l.1<20
   ·obtain ⟨b,c',q,hc'⟩:=D8f _ 2 g4 (by omega);rw [A0 hi,q];simp only [cond_true,bO];rw [A0 (by simp;omega),A0 (by simp;omega),w64 (by omega) (by omega)];exact .inl ⟨_,rfl,⟨by simp only;omega,by simp only;omega,g2,g3,hc',by simp;omega⟩,by simp only;omega⟩
   ·rw [A3 hi];exact .inr ⟨_,rfl,rfl,g4,g3⟩) (0,6,0,c1.1,c1.2.1,c1.2.2,[],()) ⟨by simp,by simp,rfl,rfl,hc1,rfl⟩
 obtain ⟨ev,c',w',u⟩:=z;obtain ⟨z1,z2,z3⟩:=hz;simp only at z1 z2 z3;subst z1;exact ⟨ev,c',e,z2,by omega⟩
def C0o(n:Int)(cls:List A6):A5:=(A1F n,cls,List.replicate cls.length false,[],[],List.replicate cls.length (-1))
def D5Z:A5:=((((([],[]),(0,(0,[]))),[]),([],([],([],([],[]))))):A5)
theorem C7f(n:Int)(cls:List A6)(hl:cls.length≤1000)(hc:∀ c∈cls,c.1.size≤maxLen∧c.2.1.length≤140737488355328):∃ w,A4N n cls=some (w,())∧(w=C0o n cls∨w=D5Z):=by
 have hd:=D2K n;have ks:B8 (A0L V5 cls) (0,0,0,(D6 n).1,(D6 n).2,[],[],[],[],[],())=some (0,0,(D6 n).1,(D6 n).2,[],[],cls,List.replicate cls.length false,List.replicate cls.length (-1),()):=by
  have key:=D3 (A0L V5 cls) (fun i=>((i:Int),0,0,(D6 n).1,(D6 n).2,[],[],cls.take i,List.replicate i false,List.replicate i (-1),())) cls.length (0,0,(D6 n).1,(D6 n).2,[],[],cls,List.replicate cls.length false,List.replicate cls.length (-1),()) (fun i hi=>?_) ?_
  ·simpa using key
  ·have g1:(i:Int)<(cls.length:Int):=by omega
   have g2:(0:Int)≤(i:Int):=by omega
   simp only [A0L,A0 g1,A0 g2,cond_true];rw [C3 (k:=B3) (xs:=cls) hi,C4u _ (hc _ (List.getElem_mem hi)).2];simp only [A4];rw [A0 (by simp;omega),A0 (by simp;omega),A0 (by simp;omega),A0 (by simp;omega),A0 (by simp;omega),A0 (by simp;omega),w64 (by omega) (by omega),List.take_succ_eq_append_getElem hi,List.replicate_succ',List.replicate_succ'];rfl
  ·simp [A0L]
 have hsec:A6c (D6 n).1:=by
  refine ⟨by omega,fun s hs=>?_⟩;unfold D6 at hs;split at hs
  ·rw [List.eq_of_mem_replicate hs];exact Nat.zero_le _
  ·cases hs
 have hw:E3j (C0o n cls):=⟨hsec,by simp [C0o,A1F],⟨by show cls.length≤_;omega,fun c h=>(hc c h).1⟩,⟨by simp [C0o],fun a ha=>by cases ha⟩,by simp [C0o]⟩;obtain ⟨b,hb,hi⟩:=C5B (C0o n cls) hw;simp only [A4N,B21,C5C,A4];have es:B8 (A0L V5 cls) (0,(A1F n).1.2.1,(A1F n).1.2.2.1,(A1F n).1.1.1,(A1F n).1.1.2,(A1F n).1.2.2.2,(A1F n).2,[],[],[],())=_:=ks;rw [es];have hb':Z0 (((((D6 n).1,(D6 n).2),((0:Int),((0:Int),[]))),[]),(cls,(List.replicate cls.length false,([],([],List.replicate cls.length (-1))))))=some (b,()):=hb;simp only [hb'];cases b with
 | false=>exact ⟨_,rfl,.inr rfl⟩
 | true=>exact ⟨_,rfl,.inl rfl⟩
def abc:List ByteArray:= [(⟨#[97]⟩:ByteArray),(⟨#[98]⟩:ByteArray),(⟨#[99]⟩:ByteArray)]
theorem E2f:∀ i j:Nat,i<3→j<3→abc[i]? = abc[j]?→i=j:=by
 have ne:∀ a b:UInt8,(⟨#[a]⟩:ByteArray)=⟨#[b]⟩→a=b:=fun a b e=>by
  injection e with e;injection e with e;injection e
 intro i j hi hj;have h:∀ (a b:UInt8),a≠b→(some (⟨#[a]⟩:ByteArray)=some ⟨#[b]⟩→i=j):=fun a b hne e=>absurd (ne a b (Option.some.inj e)) hne
 match i,j,hi,hj with
 | 0,0,_,_=>exact fun _=>rfl
 | 1,1,_,_=>exact fun _=>rfl
 | 2,2,_,_=>exact fun _=>rfl
 | 0,1,_,_=>exact fun e=>absurd (ne 97 98 (Option.some.inj e)) (by decide)
 | 0,2,_,_=>exact fun e=>absurd (ne 97 99 (Option.some.inj e)) (by decide)
 | 1,0,_,_=>exact fun e=>absurd (ne 98 97 (Option.some.inj e)) (by decide)
 | 1,2,_,_=>exact fun e=>absurd (ne 98 99 (Option.some.inj e)) (by decide)
 | 2,0,_,_=>exact fun e=>absurd (ne 99 97 (Option.some.inj e)) (by decide)
 | 2,1,_,_=>exact fun e=>absurd (ne 99 98 (Option.some.inj e)) (by decide)
theorem E3q:∀ s∈abc,idB s=true∧s.size=1:=by
 intro s hs;simp only [abc,List.mem_cons,List.not_mem_nil,or_false] at hs;rcases hs with rfl | rfl | rfl<;>exact ⟨by decide,rfl⟩
structure D8r (j:Int) (cls:List A6):Prop where
 n:(cls.length:Int)+j≤3
 ok:∀ a∈cls,ClG a∧a.2.2.1=1∧∃ i:Nat,i<3∧j≤(i:Int)∧abc[i]? = some a.1
 dist:∀ (p q:Nat) (a b:A6),cls[p]? = some a→cls[q]? = some b→a.1=b.1→p=q
theorem E12{j:Nat}{cls:List A6}(h:D8r ((j:Int)+1) cls){a:A6}(ha:ClG a)(h1:a.2.2.1=1)(hid:abc[j]? = some a.1):D8r (j:Int) (cls ++ [a]):=by
 have hn:=h.n;have get:∀ (p:Nat) (x:A6),(cls ++ [a])[p]? = some x→(p<cls.length∧cls[p]? = some x)∨(p=cls.length∧x=a):=fun p x hx=>by
  rcases Nat.lt_or_ge p cls.length with hp | hp
  ·rw [List.getElem?_append_left hp] at hx;exact .inl ⟨hp,hx⟩
  ·rw [List.getElem?_append_right hp] at hx;have:=(List.getElem?_eq_some_iff.1 hx).1;simp at this;obtain rfl:p=cls.length:=by omega
   rw [Nat.sub_self] at hx;injection hx with hx
   exact .inr ⟨rfl,hx.symm⟩
 have diff:∀ x∈cls,x.1≠a.1:=fun x hx e=>by
  obtain ⟨_,_,i,hi3,hi,g⟩:=h.ok x hx;rw [e,← hid] at g;have:=E2f i j hi3 (by have:=(List.getElem?_eq_some_iff.1 hid).1;simpa [abc] using this) g;omega
 refine ⟨by simp;omega,fun x hx=>?_,fun p q x y hx hy e=>?_⟩
 ·rcases List.mem_append.1 hx with hx | hx
  ·obtain ⟨g1,g2,i,g3,g4,g5⟩:=h.ok x hx;exact ⟨g1,g2,i,g3,by omega,g5⟩
  ·rw [List.mem_singleton] at hx;subst hx;have:=(List.getElem?_eq_some_iff.1 hid).1;exact ⟨ha,h1,j,by simpa [abc] using this,Int.le_refl _,hid⟩
 ·rcases get p x hx with ⟨hp,gx⟩ | ⟨hp,rfl⟩<;>rcases get q y hy with ⟨hq,gy⟩ | ⟨hq,rfl⟩
  ·exact h.dist p q x y gx gy e
  ·exact absurd e (diff x (List.mem_of_getElem? gx))
  ·exact absurd e.symm (diff y (List.mem_of_getElem? gy))
  ·omega
theorem E13{n:Int}(hn:n≤200){cls:List A6}(h:D8r 0 cls):WIw 0 (((D6 n,(0,(0,[]))),[]),(cls,(List.replicate cls.length false,([],([],List.replicate cls.length (-1)))))):=by
 obtain ⟨⟨c,hd⟩,hep,_⟩:=B6R n hn;have hsc:B6 (D6 n).1 = []:=by
  have h1:(0:Int)=((B6 (D6 n).1).length:Int):=by
   rcases hd.g with ⟨_,_,_,h4,_⟩;exact h4
  exact List.eq_nil_of_length_eq_zero (by omega)
 have hl:=h.n;have hrep:∀ {α:Type} (v:α) (i:Nat) (x:α),(List.replicate cls.length v)[i]? = some x→x=v:=fun v i x hx=>(List.mem_replicate.1 (List.mem_of_getElem? hx)).2
 refine wiw (c:=c) (uc:= []) {
  dur:=hd
  ep:=hep
  nd:=fun r hr=>by rw [hsc] at hr;cases hr
  fuc:=by rw [hsc,List.take_nil];rfl
  n6:=by omega
  lb:=List.length_replicate
  lt:=List.length_replicate
  dist:=h.dist
  cl:=fun i a ha=>(h.ok a (List.mem_of_getElem? ha)).1
  cnt:=fun i b hb=>by rw [hrep _ _ _ hb];rfl
  dn:=fun i a ha h5=>by have:=(h.ok a (List.mem_of_getElem? ha)).2.1;omega
  ask:=fun a ha=>by cases ha
  hld:=fun a ha=>by cases ha
  tell:=fun a ha=>by cases ha
  bst:=fun i a b ha hb=>.inl (hrep _ _ _ hb)
  ends:=fun i a ha h5=>by have:=(h.ok a (List.mem_of_getElem? ha)).2.1;omega
  oku:=fun u hu=>by cases hu
  la:=Nat.zero_le _
  l6:=Nat.zero_le _
  lh:=Nat.zero_le _}
theorem B8z{k:Nat}{w:A5}(h:WIw k w):w.2.1.length≤6∧w.2.2.2.1.length≤60∧w.2.2.2.2.1.length≤60:=by
 obtain ⟨c,uc,h⟩:=h;exact ⟨h.n6,h.la,h.l6⟩
theorem E4F{k k':Nat}{w:A5}(h:WIw k w)(hk:k≤k'):WIw k' w:=by
 obtain ⟨c,uc,h⟩:=h;exact ⟨c,uc,{h with ep:=by have:=h.ep;omega}⟩
def hOk(n:Nat)(h:C4):Prop:=T3 h.2=true∧0≤h.1∧h.1<(n:Int)
def wOk(n:Nat)(a:K9):Prop:=A1I a.2.1=true∧0≤a.1∧a.1<(n:Int)∧Byt a.2.2∧a.2.2.length≤1048576
def cOk(c:A6):Prop:=G7 c=true∧Byt c.2.1
structure RW (st:A7) (held:List C4) (cls:List A6) (busy:List Bool) (asks:List K9) (tells:List C4) (best:List Int):Prop where
 g:GoodS st
 lh:held.length≤200
 hd:∀ h∈held,hOk cls.length h
 n6:cls.length≤6
 lb:busy.length=cls.length
 lt:best.length=cls.length
 cl:∀ c∈cls,cOk c
 la:asks.length≤60
 ask:∀ a∈asks,wOk cls.length a
 l6:tells.length≤60
 tl:∀ h∈tells,hOk cls.length h
def RWw(w:A5):Prop:=RW w.1.1 w.1.2 w.2.1 w.2.2.1 w.2.2.2.1 w.2.2.2.2.1 w.2.2.2.2.2
theorem B2b{id:ByteArray}{st st':A7}(hs:Steps id st st')(h:GoodS st):GoodS st':=by
 induction hs with
 | refl=>exact h
 | step h1 hr e1 e2 hlt hid _ hf ih=>exact (B2W ih hr e1 e2 hlt hf).1
theorem D8s{st:A7}{r:A1e}{dat:List Int}(h:GoodS st)(hb:Byt dat):GoodS (A5k st r dat).1:=by
 have hR:=D0K h (B4X h);unfold A5k;split
 ·exact B2b (D2a hR) h
 ·split
  ·exact B2b (D5U hR hb) h
  ·split
   ·exact B2b (D2b hR) h
   ·split
    ·exact B2b (D2c hR) h
    ·exact h
theorem C0p{st:A7}(h:Ups st.2.2.2)(id:ByteArray):0≤lenOf st id∧lenOf st id≤1000000000:=by
 unfold lenOf;split
 ·rename_i hh;obtain ⟨hlt,_⟩:=H4.1 hh;have hg:=h.2.2 _ (List.getElem_mem hlt);rw [C3 (k:=kUp) hlt];have h1:=hg.1;have h2:=hg.2.1;omega
 ·omega
theorem B5r{s o:Int}(h1:100≤s)(h2:s≤599)(h3:-1≤o)(h4:o≤1000000000):T3 (s,o)=true:=by
 simp only [T3,Bool.and_eq_true,decide_eq_true_eq];omega
theorem A9Y{st:A7}(h:Ups st.2.2.2)(c:Int)(id:ByteArray):T3 (G3 st c id)=true:=by
 have hl:=C0p h id;unfold G3
 repeat' split
 all_goals exact B5r (by omega) (by omega) (by omega) (by omega)
theorem E2g{st:A7}(h:Ups st.2.2.2)(r:A1e):T3 (D0M st r)=true:=by
 have hl:=C0p h r.2.1;unfold D0M
 repeat' split
 all_goals exact B5r (by omega) (by omega) (by omega) (by omega)
theorem D8t{st:A7}{r:A1e}{dat:List Int}(h:GoodS st)(hb:Byt dat):T3 (A5k st r dat).2=true:=by
 have hU:=B4X h;have hR:=D0K h hU;unfold A5k;split
 ·simp only;split
  ·exact B5r (by omega) (by omega) (by omega) (by omega)
  ·exact A9Y hU _ _
 ·split
  ·simp only;split
   ·rename_i hz;obtain ⟨q1,q2,q3⟩:=B8w hR hb hz;have hl:=C0p (D2M (id:=r.2.1) (off:=r.2.2) (dat:=dat) hR hb).1 r.2.1;exact B5r (by omega) (by omega) (by omega) (by omega)
   ·exact A9Y hU _ _
  ·split
   ·simp only;split
    ·exact B5r (by omega) (by omega) (by omega) (by omega)
    ·exact A9Y hU _ _
   ·split
    ·simp only;split
     ·exact B5r (by omega) (by omega) (by omega) (by omega)
     ·exact A9Y hU _ _
    ·exact E2g hU r
theorem D8u(x:List ByteArray)(hd:A3z (x,x)=true):∃ st b,E1 (x,x)=some (st,b,())∧A06 (x,x)=some (st,b,())∧(b=true→GoodS st):=by
 obtain ⟨hS,_,h200,_⟩:=A4m hd;have hl:x.length≤200:=h200;obtain ⟨st,b,o1,o2,o3,o4⟩:=E2Z (x,x) hS;refine ⟨st,b,o1,o2,fun hb=>?_⟩;subst hb;have hll:=A5j 0 0 x;have hfs:=A2u (B6 x) (by simp only [maxLen,B6];omega) (B2U 0 0 x);have htop:=C42 x;cases hf:G2 [] (B6 x) with
 | none=>
  have hf':Q8 (B6 x)=([],false,()):=by unfold Q8;rw [hf]
  simp only [E1,P5,A6d,hd,B5o (x,x) hS.1,hfs,hf',A6E (x,x) hS.1,A08 (x,x) hS,bO,Bool.not_true,Bool.not_false,cond_false,cond_true] at o1;injection o1 with o1;injection o1 with _ o1;injection o1 with o1;cases o1
 | some us=>
  by_cases hep:A2c x+1≤10000
  ·have hg:=C1x hd hf hep;rw [C0i hg] at o1;injection o1 with o1;injection o1 with o1
   rw [← o1];exact hg
  ·have hf':Q8 (B6 x)=(us,true,()):=by unfold Q8;rw [hf]
   simp only [E1,P5,A6d,hd,B5o (x,x) hS.1,hfs,hf',A6E (x,x) hS.1,A08 (x,x) hS,bO,Bool.not_true,Bool.not_false,cond_false,cond_true] at o1;rw [w64 (n:=A2c x+1) (by omega) (by omega),A0 (show A2c x+1>10000 by omega)] at o1;injection o1 with o1;injection o1 with _ o1;injection o1 with o1;cases o1
theorem E14{d:F0}(h:A3z d=true)(k:List Bool):A3z (B6Q d k)=true:=by
 obtain ⟨_,h1,h2,h3,h4⟩:=A4m h;have hm:∀ s∈R6 d.1 d.2 k,s.size≤64:=fun s hs=>(D0L h1 hs).elim (h3 s) (h4 s)
 exact B8r rfl (by show (R6 d.1 d.2 k).length≤_;rw [B0q];exact h2) hm hm
theorem D5a{st:A7}(h:GoodS st):GoodS ((st.1.1,st.1.1),st.2):=(B7n h).g
theorem A1G{c:A6}(h:cOk c):c.1.size≤8∧c.2.1.length≤400∧idB c.1=true∧1≤c.2.2.1∧c.2.2.1≤6∧0≤c.2.2.2∧c.2.2.2≤(c.2.1.length:Int):=by
 have h1:=h.1;simp only [G7,Bool.and_eq_true,decide_eq_true_eq] at h1;have:=D2J h1.1.1.1;refine ⟨this,by omega,h1.1.1.1,?_⟩;omega
theorem B0s{c:A6}(h:cOk c):c.1.size≤maxLen:=by
 have:=(A1G h).1;simp only [maxLen];omega
theorem D0O{c:A6}(h:cOk c){s o:Int}(h1:1≤s)(h2:s≤6)(h3:0≤o)(h4:o≤(c.2.1.length:Int)):cOk (c.1,c.2.1,s,o):=by
 obtain ⟨_,g2,g3,_⟩:=A1G h;refine ⟨?_,h.2⟩;simp only [G7,Bool.and_eq_true,decide_eq_true_eq];exact ⟨⟨⟨g3,by omega⟩,by omega⟩,by omega⟩
theorem E2h{c:A6}(h:cOk c)(o:Int):cOk (far c o):=by
 obtain ⟨_,_,_,_,_,h3,h4⟩:=A1G h;unfold far;split
 ·rename_i hr;split
  ·exact D0O h (by omega) (by omega) hr.1 hr.2
  ·exact D0O h (by omega) (by omega) hr.1 hr.2
 ·exact D0O h (by omega) (by omega) h3 h4
theorem D0P(s t:Int)(h1:1≤s)(h2:s≤6):0≤A0S s t∧A0S s t≤6:=by
 unfold A0S
 repeat' split
 all_goals omega
theorem E15{c:A6}(h:cOk c)(r:L8):cOk (hear c r):=by
 obtain ⟨_,_,_,h1,h2,h3,h4⟩:=A1G h;unfold hear;split
 ·exact E2h h _
 ·rename_i hne;have:=D0P c.2.2.1 r.1 h1 h2;exact D0O h (by omega) (by omega) h3 h4
theorem E3r{r:A1e}(h:A1I r=true):r.2.1.size≤8∧(0≤r.2.2∧r.2.2≤4294967295):=by
 simp only [A1I,Bool.and_eq_true,decide_eq_true_eq] at h;refine ⟨D2J h.1.2,h.2.1,?_⟩;have:=h.2.2;unfold B2Q at this;split at this
 ·omega
 ·split at this
  ·omega
  ·split at this
   ·omega
   ·omega
theorem C5P{c:A6}(h:cOk c){r:A1e}{d:List Int}(hq:G6 c=(r,d,true,())):A1I r=true∧Byt d∧d.length≤1048576:=by
 obtain ⟨_,h400,hid,h1,h2,h3,h4⟩:=A1G h;have hl:=B4Q c;rw [hq] at hl;have hl':d.length≤c.2.1.length:=hl;have hcrc:=A9P h.2;have hx:A2t c.2.1 ^^^ 4294967295<2 ^ 32:=Nat.xor_lt_two_pow hcrc (by omega);have mk:∀ (op n:Int),1≤op→op≤6→0≤n→n≤B2Q op→A1I (op,c.1,n)=true:=fun op n g1 g2 g3 g4=>by
  simp only [A1I,Bool.and_eq_true,decide_eq_true_eq];exact ⟨⟨by omega,hid⟩,by omega⟩
 have key:(G6 c).2.2.1=true→A1I (G6 c).1=true∧Byt (G6 c).2.1:=by
  unfold G6;rw [h.1];simp only [Bool.true_eq_false,if_false];split
  ·exact fun _=>⟨mk 1 _ (by omega) (by omega) (by omega) (by show _≤(1000000000:Int);omega),T4⟩
  ·split
   ·exact fun _=>⟨mk 2 _ (by omega) (by omega) (by omega) (by show _≤(0:Int);omega),T4⟩
   ·split
    ·exact fun _=>⟨mk 3 _ (by omega) (by omega) (by omega) (by show _≤(1000000000:Int);omega),A4i (A22 h.2 _) _⟩
    ·split
     ·exact fun _=>⟨mk 4 _ (by omega) (by omega) (by omega) (by show _≤(4294967295:Int);omega),T4⟩
     ·exact fun e=>by cases e
 rw [hq] at key;obtain ⟨k1,k2⟩:=key rfl;exact ⟨k1,k2,by omega⟩
def A1Q(w:A5)(i:Int):Bool×A5:=
 if 0≤i∧i<(w.2.1.length:Int)∧rd .bool w.2.2.1 i=false∧¬ (w.2.2.2.1.length:Int)=60∧(G6 (rd B3 w.2.1 i)).2.2.1=true then
  (true,(w.1,(w.2.1,(w.2.2.1.set i.toNat true,(w.2.2.2.1 ++ [(i,((G6 (rd B3 w.2.1 i)).1,(G6 (rd B3 w.2.1 i)).2.1))],w.2.2.2.2)))))
 else (false,w)
def L7(w:A5)(j:Int):Bool×A5:=
 if 0≤j∧j<(w.2.2.2.1.length:Int)∧¬ (w.1.2.length:Int)=200 then
  (true,(((A5k w.1.1 (rd G0 w.2.2.2.1 j).2.1 (rd G0 w.2.2.2.1 j).2.2).1,w.1.2 ++ [((rd G0 w.2.2.2.1 j).1,(A5k w.1.1 (rd G0 w.2.2.2.1 j).2.1 (rd G0 w.2.2.2.1 j).2.2).2)]),(w.2.1,(w.2.2.1,(rm w.2.2.2.1 j.toNat,w.2.2.2.2)))))
 else (false,w)
def A2X(w:A5):Bool×A5:=
 if (w.2.2.2.2.1.length:Int)+(w.1.2.length:Int)>60 then (false,w)
 else (true,((((w.1.1.1.1,w.1.1.1.1),w.1.1.2),[]),(w.2.1,(w.2.2.1,(w.2.2.2.1,(w.2.2.2.2.1++w.1.2,w.2.2.2.2.2))))))
def D8v(a b:Int):Int:=bif decide (b>a) then b else a
def U6(w:A5)(j:Int):Bool×A5:=
 if 0≤j∧j<(w.2.2.2.2.1.length:Int) then
  if rd .bool w.2.2.1 (rd B2 w.2.2.2.2.1 j).1=true then
   (true,(w.1,(w.2.1.set (rd B2 w.2.2.2.2.1 j).1.toNat (X1 (rd B3 w.2.1 (rd B2 w.2.2.2.2.1 j).1) (rd B2 w.2.2.2.2.1 j).2),(w.2.2.1.set (rd B2 w.2.2.2.2.1 j).1.toNat false,(w.2.2.2.1,(rm w.2.2.2.2.1 j.toNat,w.2.2.2.2.2.set (rd B2 w.2.2.2.2.1 j).1.toNat (D8v (rd (.int .i64) w.2.2.2.2.2 (rd B2 w.2.2.2.2.1 j).1) (rd B2 w.2.2.2.2.1 j).2.2)))))))
  else (true,(w.1,(w.2.1,(w.2.2.1,(w.2.2.2.1,(rm w.2.2.2.2.1 j.toNat,w.2.2.2.2.2))))))
 else (false,w)
def D2j(w:A5)(i:Int):Bool×A5:=
 if 0≤i∧i<(w.2.1.length:Int) then
  (true,((w.1.1,w.1.2.filter (fun x=>!decide (x.1=i))),(w.2.1.set i.toNat (G5 (rd B3 w.2.1 i)),(w.2.2.1.set i.toNat false,(w.2.2.2.1.filter (fun x=>!decide (x.1=i)),(w.2.2.2.2.1.filter (fun x=>!decide (x.1=i)),w.2.2.2.2.2))))))
 else (false,w)
noncomputable def B2c(w:A5)(ke:List Bool):Bool×A5:=
 match E1 (B6Q w.1.1.1 ke) with
 | some (st,true,_)=>(true,((st,[]),(w.2.1.map G5,(List.replicate w.2.1.length false,([],([],w.2.2.2.2.2))))))
 | _=>(false,w)
noncomputable def evF(w:A5)(e:A7v):Bool×A5:=
 if e.1=1 then A1Q w e.2.1 else if e.1=2 then L7 w e.2.1 else if e.1=3 then A2X w else if e.1=4 then U6 w e.2.1 else if e.1=5 then D2j w e.2.1 else if e.1=6 then B2c w e.2.2 else (false,w)
theorem E2i{w:A5}(h:RWw w)(i:Int):RWw (A1Q w i).2:=by
 unfold A1Q;split
 ·rename_i hc;obtain ⟨h0,h1,h2,h3,h4⟩:=hc;obtain ⟨⟨st,held⟩,cls,busy,asks,tells,best⟩:=w;simp only at h0 h1 h2 h3 h4 ⊢;unfold RWw at h ⊢;simp only at h ⊢;obtain ⟨i,rfl⟩:∃ j:Nat,i=(j:Int):=⟨i.toNat,by omega⟩;have hi:i<cls.length:=by omega
  rw [C3 (k:=B3) (xs:=cls) hi] at h4 ⊢;have hla:=h.la;obtain ⟨k1,k2,k3⟩:=C5P (h.cl _ (List.getElem_mem hi)) (r:=(G6 cls[i]).1) (d:=(G6 cls[i]).2.1) (by rw [← h4]);refine {h with lb:=by rw [List.length_set];exact h.lb,la:=by simp only [List.length_append,List.length_cons,List.length_nil];omega,ask:=fun a ha=>?_};rcases List.mem_append.1 ha with ha | ha
  ·exact h.ask a ha
  ·rw [List.mem_singleton.1 ha];exact ⟨k1,by show (0:Int)≤(i:Int);omega,by show (i:Int)<_;omega,k2,k3⟩
 ·exact h
theorem D2k{w:A5}(h:RWw w)(j:Int):RWw (L7 w j).2:=by
 unfold L7;split
 ·rename_i hc;obtain ⟨h0,h1,h2⟩:=hc;obtain ⟨⟨st,held⟩,cls,busy,asks,tells,best⟩:=w;simp only at h0 h1 h2 ⊢;unfold RWw at h ⊢;simp only at h ⊢;obtain ⟨j,rfl⟩:∃ q:Nat,j=(q:Int):=⟨j.toNat,by omega⟩;have hj:j<asks.length:=by omega
  rw [C3 (k:=G0) (xs:=asks) hj];obtain ⟨g1,g2,g3,g4,g5⟩:=h.ask _ (List.getElem_mem hj);have hlh:=h.lh;have hla:=h.la;rw [Int.toNat_natCast];have hrl:=B2Y hj;refine {h with g:=D8s h.g g4,lh:=by simp only [List.length_append,List.length_cons,List.length_nil];omega,hd:=fun x hx=>?_,la:=by omega,ask:=fun x hx=>h.ask x (C0m hx)};rcases List.mem_append.1 hx with hx | hx
  ·exact h.hd x hx
  ·rw [List.mem_singleton.1 hx];exact ⟨D8t h.g g4,g2,g3⟩
 ·exact h
theorem E2j{w:A5}(h:RWw w):RWw (A2X w).2:=by
 unfold A2X;split
 ·exact h
 ·rename_i hc;obtain ⟨⟨st,held⟩,cls,busy,asks,tells,best⟩:=w;simp only at hc ⊢;unfold RWw at h ⊢;simp only at h ⊢;exact {h with g:=D5a h.g,lh:=by simp,hd:=fun x hx=>(by cases hx),l6:=by simp only [List.length_append];omega,tl:=fun x hx=>(List.mem_append.1 hx).elim (h.tl x) (h.hd x)}
theorem D0Q{c:A6}(h:cOk c)(r:L8):cOk (X1 c r):=by
 unfold X1;split
 ·exact E15 h r
 ·exact h
theorem D7Z{α:Type}{l:List α}{i:Nat}{v x:α}(h:x∈l.set i v):x∈l∨x=v:=List.mem_or_eq_of_mem_set h
theorem D7a{w:A5}(h:RWw w)(j:Int):RWw (U6 w j).2:=by
 unfold U6;split
 ·rename_i hc;obtain ⟨h0,h1⟩:=hc;obtain ⟨⟨st,held⟩,cls,busy,asks,tells,best⟩:=w;simp only at h0 h1 ⊢;obtain ⟨j,rfl⟩:∃ q:Nat,j=(q:Int):=⟨j.toNat,by omega⟩;have hj:j<tells.length:=by omega
  have hrl:=B2Y hj;have hl6:=h.l6;simp only at hl6;rw [C3 (k:=B2) (xs:=tells) hj,Int.toNat_natCast];have hh:=h.tl _ (List.getElem_mem hj);simp only at hh;obtain ⟨g1,g2,g3⟩:=hh;split
  ·unfold RWw at h ⊢;simp only at h ⊢;have hlen:(cls.set tells[j].1.toNat (X1 (rd B3 cls tells[j].1) tells[j].2)).length=cls.length:=List.length_set;refine {h with n6:=by rw [hlen];exact h.n6,lb:=by rw [hlen,List.length_set];exact h.lb,lt:=by rw [hlen,List.length_set];exact h.lt,cl:=fun c hc=>?_,ask:=fun a ha=>by rw [hlen];exact h.ask a ha,hd:=fun a ha=>by rw [hlen];exact h.hd a ha,tl:=fun a ha=>by rw [hlen];exact h.tl a (C0m ha),l6:=by omega};rcases D7Z hc with hc | hc
   ·exact h.cl c hc
   ·rw [hc];refine D0Q ?_ _;obtain ⟨i,hi⟩:∃ i:Nat,tells[j].1=(i:Int):=⟨tells[j].1.toNat,by omega⟩;rw [hi,C3 (k:=B3) (xs:=cls) (by omega)];exact h.cl _ (List.getElem_mem _)
  ·unfold RWw at h ⊢;simp only at h ⊢;exact {h with l6:=by omega,tl:=fun a ha=>h.tl a (C0m ha)}
 ·exact h
theorem E16{α:Type}{l:List α}{j:Nat}(h:j<l.length):B2x l (j:Int) ((j:Int)+1)=some (rm l j,()):=by
 unfold B2x;rw [A0 (show (0:Int)≤(j:Int) by omega),A0 (show (j:Int)<(j:Int)+1 by omega),A0 (show (j:Int)+1≤(l.length:Int) by omega)];simp only [cond_true];rw [Int.toNat_natCast,show ((j:Int)+1).toNat=j+1 by omega];rfl
theorem E17{α:Type}{l:List α}{j:Nat}:([]++(l.take j).drop 0)++(l.take l.length).drop ((j:Int)+1).toNat=rm l j:=by
 unfold rm;rw [show ((j:Int)+1).toNat=j+1 by omega,List.drop_zero,List.take_length];rfl
theorem C44{w:A5}(h:RWw w)(i:Int):A1w w i=some ((A1Q w i).1,(A1Q w i).2,())∧Z9 w i=some ((A1Q w i).1,(A1Q w i).2,()):=by
 obtain ⟨⟨st,held⟩,cls,busy,asks,tells,best⟩:=w;unfold RWw at h;simp only at h;have hn:=h.n6;have hlb:=h.lb;have hla:=h.la;simp only [A1w,A8G,Z9,A5v,L3,N1,bO,A1Q];rw [w64 (n:=(cls.length:Int)-1) (by omega) (by omega)];by_cases hr:0≤i∧i≤(cls.length:Int)-1
 ·obtain ⟨i,rfl⟩:∃ j:Nat,i=(j:Int):=⟨i.toNat,by omega⟩;have hic:i<cls.length:=by omega
  obtain ⟨cl,hcl⟩:∃ x,cls[i]? = some x:=⟨_,List.getElem?_eq_getElem hic⟩;obtain ⟨b,hb⟩:∃ x,busy[i]? = some x:=⟨_,List.getElem?_eq_getElem (by omega)⟩;have hg:=h.cl cl (List.mem_of_getElem? hcl);rw [A0 hr,A0 (show (0:Int)≤(i:Int) by omega),A0 (show (i:Int)<(busy.length:Int) by omega),A0 (show (i:Int)<(cls.length:Int) by omega),U5 .bool hb,U5 C1z hcl,U5 B3 hcl,B8g cl (B0s hg) hg.2,D07 cl (B0s hg) hg.2];simp only [Bool.not_true,cond_false,cond_true];cases b with
  | true=>
   rw [if_neg (fun hx=>by have:=hx.2.2.1;cases this)];exact ⟨rfl,rfl⟩
  | false=>
   simp only [cond_false];by_cases h60:(asks.length:Int)=60
   ·rw [A0 h60,A0 (show (asks.length:Int)≥60 by omega),if_neg (fun hx=>hx.2.2.2.1 h60)];exact ⟨rfl,rfl⟩
   ·rw [A3 h60,A3 (show ¬ (asks.length:Int)≥60 by omega)];simp only [cond_false,B7,bO];generalize G6 cl=q;obtain ⟨r,dat,ok,u⟩:=q;cases ok with
    | false=>
     rw [if_neg (fun hx=>by have:=hx.2.2.2.2;cases this)];exact ⟨rfl,rfl⟩
    | true=>
     rw [if_pos ⟨by omega,by omega,trivial,h60,rfl⟩];simp only [Bool.not_true,cond_false,cond_true];rw [A0 (by simp;omega),A0 (by simp;omega)];exact ⟨rfl,rfl⟩
 ·rw [A3 hr,if_neg (fun hx=>hr ⟨hx.1,by omega⟩)];exact ⟨rfl,rfl⟩
theorem B5s{w:A5}(h:RWw w)(j:Int):A10 w j=some ((L7 w j).1,(L7 w j).2,())∧W6 w j=some ((L7 w j).1,(L7 w j).2,()):=by
 obtain ⟨⟨st,held⟩,cls,busy,asks,tells,best⟩:=w;unfold RWw at h;simp only at h;have hla:=h.la;have hlh:=h.lh;obtain ⟨hR,hS,hok,_⟩:=B8u h.g;simp only [A10,A6t,W6,A4Q,L3,N1,bO,L7];rw [w64 (n:=(asks.length:Int)-1) (by omega) (by omega)];by_cases hr:0≤j∧j≤(asks.length:Int)-1
 ·obtain ⟨j,rfl⟩:∃ q:Nat,j=(q:Int):=⟨j.toNat,by omega⟩;have hjl:j<asks.length:=by omega
  obtain ⟨a,ha⟩:∃ x,asks[j]? = some x:=⟨_,List.getElem?_eq_getElem hjl⟩;obtain ⟨g1,g2,g3,g4,g5⟩:=h.ask a (List.mem_of_getElem? ha);obtain ⟨q1,q2,q3⟩:=E3r g1;have hid:a.2.1.2.1.size≤maxLen:=by simp only [maxLen];omega
  have ho:-9223372036854775808≤a.2.1.2.2∧a.2.1.2.2≤9223372036854775807:=by omega
  rw [A0 hr,A0 (show (0:Int)≤(j:Int) by omega),A0 (show (j:Int)<(asks.length:Int) by omega),A0 (show (j:Int)≤(asks.length:Int) by omega),U5 D0N ha,U5 G0 ha,w64 (n:=(j:Int)+1) (by omega) (by omega)];simp only [Bool.not_true,cond_false,cond_true,A2P,A5b,C5A a.2.1 hid,g1,bO];by_cases h200:(held.length:Int)=200
  ·rw [A0 h200,A0 (show (held.length:Int)≥200 by omega),if_neg (fun hx=>hx.2.2 h200)];exact ⟨rfl,rfl⟩
  ·rw [A3 h200,A3 (show ¬ (held.length:Int)≥200 by omega),if_pos ⟨by omega,by omega,h200⟩];have e1:=C9C st a.2.1 a.2.2 hid hR hS hok g4 g5 ho;have e2:=D2d (st,held) a.2.1 a.2.2 hid hR g4 g5 ho;simp only [cond_false,B7,e1,e2,bO,I5,E16 hjl,E17,Int.toNat_natCast];rw [A0 (by simp;omega),A0 (by simp;omega),A0 (show (0:Int)≤(j:Int)+1 by omega),A0 (show (j:Int)+1≤(asks.length:Int) by omega),A0 (by simp;omega),A0 (by simp;omega),A0 (by simp;omega),A0 (by simp;omega)];exact ⟨rfl,rfl⟩
 ·rw [A3 hr,if_neg (fun hx=>hr ⟨hx.1,by omega⟩)];exact ⟨rfl,rfl⟩
theorem B90{w:A5}(h:RWw w):A1x w=some ((A2X w).1,(A2X w).2,())∧A1i w=some ((A2X w).1,(A2X w).2,()):=by
 obtain ⟨⟨st,held⟩,cls,busy,asks,tells,best⟩:=w;unfold RWw at h;simp only at h;have hl6:=h.l6;have hlh:=h.lh;obtain ⟨hR,hS,_⟩:=B8u h.g;simp only [A1x,A8I,A1i,A97,A0s,A3g,A2X,D5H st.1 hS.1,C58 st.1 hS.1,bO];rw [w64 (n:=(tells.length:Int)+(held.length:Int)) (by omega) (by omega)];by_cases h60:(tells.length:Int)+(held.length:Int)>60
 ·rw [A0 h60,if_pos h60];exact ⟨rfl,rfl⟩
 ·rw [A3 h60,if_neg h60,A0 (by omega),A0 (by omega)];exact ⟨rfl,rfl⟩
theorem D7b{a b:Int}(h:b>a):D8v a b=b:=by unfold D8v;rw [A0 h];rfl
theorem D7c{a b:Int}(h:¬ b>a):D8v a b=a:=by unfold D8v;rw [A3 h];rfl
theorem B91{w:A5}(h:RWw w)(j:Int):A1y w j=some ((U6 w j).1,(U6 w j).2,())∧A02 w j=some ((U6 w j).1,(U6 w j).2,()):=by
 obtain ⟨⟨st,held⟩,cls,busy,asks,tells,best⟩:=w;unfold RWw at h;simp only at h;have hn:=h.n6;have hl6:=h.l6;have hlb:=h.lb;have hlt:=h.lt;simp only [A1y,A8J,A02,A5y,L3,N1,bO,U6];rw [w64 (n:=(tells.length:Int)-1) (by omega) (by omega)];by_cases hr:0≤j∧j≤(tells.length:Int)-1
 ·obtain ⟨j,rfl⟩:∃ q:Nat,j=(q:Int):=⟨j.toNat,by omega⟩;have hjl:j<tells.length:=by omega
  obtain ⟨a,ha⟩:∃ x,tells[j]? = some x:=⟨_,List.getElem?_eq_getElem hjl⟩;obtain ⟨g1,g2,g3⟩:=h.tl a (List.mem_of_getElem? ha);obtain ⟨who,resp⟩:=a;simp only at g1 g2 g3;obtain ⟨i,rfl⟩:∃ q:Nat,who=(q:Int):=⟨who.toNat,by omega⟩;have hic:i<cls.length:=by omega
  obtain ⟨cl,hcl⟩:∃ x,cls[i]? = some x:=⟨_,List.getElem?_eq_getElem hic⟩;obtain ⟨b,hb⟩:∃ x,busy[i]? = some x:=⟨_,List.getElem?_eq_getElem (show i<busy.length by omega)⟩;obtain ⟨bt0,hbt⟩:∃ x,best[i]? = some x:=⟨_,List.getElem?_eq_getElem (show i<best.length by omega)⟩;have hg:=h.cl cl (List.mem_of_getElem? hcl);have hsz:=A1G hg;rw [A0 hr,U5 B2 ha];have hhr:X1 cl resp=if A2s cl=true then cl else hear cl resp:=by
   unfold X1;rw [hg.1,g1];cases A2s cl<;>rfl
  have hset:∀ {α:Type} {l:List α} {n:Nat} {v:α},l[n]? = some v→l.set n v=l:=fun {α l n v} hv=>by
   obtain ⟨hn,e⟩:=List.getElem?_eq_some_iff.1 hv;rw [← e];exact List.set_getElem_self hn
  simp only [Bool.not_true,cond_false];rw [if_pos (show (0:Int)≤(j:Int)∧(j:Int)<(tells.length:Int) by omega),U5 .bool hb,U5 B3 hcl,U5 (.int .i64) hbt,w64 (n:=(j:Int)+1) (by omega) (by omega),Int.toNat_natCast,Int.toNat_natCast];constructor
  ·rw [A0 (show (0:Int)≤(j:Int) by omega),A0 (show (j:Int)<(tells.length:Int) by omega),A0 (show (0:Int)≤(i:Int) by omega),A0 (show (i:Int)<(busy.length:Int) by omega),A0 (show (i:Int)<(cls.length:Int) by omega),A0 (show (i:Int)<(best.length:Int) by omega),C7b cl resp (B0s hg) (by omega)];simp only [cond_true,bO,I7,E16 hjl];cases b<;>rfl
  ·rw [A0 (show (0:Int)≤(j:Int) by omega),A0 (show (j:Int)<(tells.length:Int) by omega),A0 (show (j:Int)≤(tells.length:Int) by omega),
    A0 (show (0:Int)≤(j:Int)+1 by omega),A0 (show (j:Int)+1≤(tells.length:Int) by omega),A0 (by simp;omega),A0 (by simp;omega),A0 (by simp;omega),A0 (by simp;omega),
    A0 (show (0:Int)≤(i:Int) by omega),A0 (show (i:Int)<(busy.length:Int) by omega),A0 (show (i:Int)<(cls.length:Int) by omega),U5 C1z hcl,B7j,C50]
   simp only [cond_true,bO,E17];cases b with
   | false=>rfl
   | true=>
    simp only [cond_true,if_true];cases hov:A2s cl with
    | true=>
     have e1:X1 cl resp=cl:=by rw [hhr,hov];rfl
     rw [e1,hset hcl];simp only [Bool.not_true,cond_false,cond_true,bO];rw [A0 (show (i:Int)<(best.length:Int) by omega),U5 (.int .i64) hbt];by_cases hgt:resp.2>bt0
     ·rw [A0 hgt,D7b hgt];rfl
     ·rw [A3 hgt,D7c hgt,hset hbt];rfl
    | false=>
     have e1:X1 cl resp=hear cl resp:=by rw [hhr,hov];rfl
     rw [e1];simp only [Bool.not_false,cond_false,cond_true,bO];rw [A0 (show (i:Int)<(best.length:Int) by omega),U5 (.int .i64) hbt];by_cases hgt:resp.2>bt0
     ·rw [A0 hgt,D7b hgt];rfl
     ·rw [A3 hgt,D7c hgt,hset hbt];rfl
 ·rw [A3 hr,if_neg (fun hx=>hr ⟨hx.1,by omega⟩)];exact ⟨rfl,rfl⟩
theorem D7d{w:A5}{i:Nat}{cl:A6}(hcl:w.2.1[i]? = some cl)(hb:i<w.2.2.1.length)(hg:cOk cl):S7 w (i:Int)=some ((w.1,(w.2.1.set i (G5 cl),(w.2.2.1.set i false,w.2.2.2))),()):=by
 have hi:=A5l hcl;have:=A1G hg;simp only [S7,A8L];rw [A0 (show (0:Int)≤(i:Int) by omega),A0 (show (i:Int)<(w.2.1.length:Int) by omega),A0 (show (i:Int)<(w.2.2.1.length:Int) by omega),U5 B3 hcl,D2e cl (B0s hg) (by omega)];rfl
theorem D7e{w:A5}(h:RWw w)(i:Int):A2q w i=some ((D2j w i).1,(D2j w i).2,())∧A0l w i=some ((D2j w i).1,(D2j w i).2,()):=by
 obtain ⟨⟨st,held⟩,cls,busy,asks,tells,best⟩:=w;unfold RWw at h;simp only at h;have hn:=h.n6;have hlb:=h.lb;have hla:=h.la;have hl6:=h.l6;have hlh:=h.lh;simp only [A2q,B07,A0l,A7U,L3,N1,bO,D2j];rw [w64 (n:=(cls.length:Int)-1) (by omega) (by omega)];by_cases hr:0≤i∧i≤(cls.length:Int)-1
 ·obtain ⟨i,rfl⟩:∃ q:Nat,i=(q:Int):=⟨i.toNat,by omega⟩;have hic:i<cls.length:=by omega
  obtain ⟨cl,hcl⟩:∃ x,cls[i]? = some x:=⟨_,List.getElem?_eq_getElem hic⟩;have hg:=h.cl cl (List.mem_of_getElem? hcl);have hsz:=A1G hg;rw [A0 hr,C5L (((st,held),(cls,(busy,(asks,(tells,best))))):A5) (i:Int) (by show asks.length≤_;omega),B5p tells _ (by omega),B5p held _ (by omega),A0 (show (0:Int)≤(i:Int) by omega),A0 (show (i:Int)<(cls.length:Int) by omega),A0 (show (i:Int)<(busy.length:Int) by omega),U5 C1z hcl,U5 B3 hcl,A9V cl (B0s hg) (by omega),if_pos ⟨by omega,by omega⟩];refine ⟨?_,rfl⟩;simp only [Bool.not_true,cond_false,G9,H1,B7N,bO];rw [D7d (w:=(((st,held.filter fun a=>!decide (a.1=(i:Int))),(cls,(busy,(asks.filter fun a=>!decide (a.1=(i:Int)),(tells.filter fun a=>!decide (a.1=(i:Int)),best))))):A5)) hcl (by show i<busy.length;omega) hg];rfl
 ·rw [A3 hr,if_neg (fun hx=>hr ⟨hx.1,by omega⟩)];exact ⟨rfl,rfl⟩
theorem C9G{w:A5}(h:RWw w)(ke:List Bool):A12 w ke=some ((B2c w ke).1,(B2c w ke).2,())∧W7 w ke=some ((B2c w ke).1,(B2c w ke).2,()):=by
 obtain ⟨⟨st0,held⟩,cls,busy,asks,tells,best⟩:=w;unfold RWw at h;simp only at h;have hn:=h.n6;have hlb:=h.lb;obtain ⟨st,b,o1,o2,o3⟩:=D8u _ (E14 h.g.dk ke);have o1':E1 (B6Q st0.1 ke)=some (st,b,()):=o1;have o2':A06 (B6Q st0.1 ke)=some (st,b,()):=o2;simp only [A12,A6v,W7,A4S,A2S,A5c,B2c,C0h st0.1 ke h.g.dk,D8l st0.1 ke h.g.dk,o1',o2',bO];cases b with
 | false=>exact ⟨rfl,rfl⟩
 | true=>
  simp only [cond_true,Bool.not_true,cond_false,bO];have hlm:(cls.map G5).length=cls.length:=List.length_map _;have hlr:(List.replicate cls.length false).length=busy.length:=by rw [List.length_replicate];omega
  have z1:A25 (cls.map G5) cls cls.length=cls.map G5:=by unfold A25;rw [List.drop_length,List.append_nil,List.take_of_length_le (by simp)]
  have z2:A25 (List.replicate cls.length false) busy cls.length=List.replicate cls.length false:=by unfold A25;rw [← hlb,List.drop_length,List.append_nil,List.take_of_length_le (by simp)]
  constructor
  ·refine D3 (A1P S7 (((st0,held),(cls,(busy,(asks,(tells,best))))):A5)) (fun j=>((j:Int),st.2.1,st.2.2.1,st.1.1,st.1.2,st.2.2.2,([]:List C4),A25 (cls.map G5) cls j,A25 (List.replicate cls.length false) busy j,([]:List K9),([]:List C4),best,())) cls.length
    (true,(((((st.1.1,st.1.2),(st.2.1,(st.2.2.1,st.2.2.2))),[]),(cls.map G5,(List.replicate cls.length false,([],([],best))))):A5),()) (fun j hj=>?_) ?_
   ·have l2:=A8Q (l:=List.replicate cls.length false) (x:=busy) hlr j;have gc:=B4Y (l:=cls.map G5) (x:=cls) hlm hj;rw [List.getElem?_eq_getElem hj] at gc;have hg:=h.cl _ (List.getElem_mem hj);have hrest:=D7d (w:=(((((st.1.1,st.1.2),(st.2.1,(st.2.2.1,st.2.2.2))),[]),(A25 (cls.map G5) cls j,(A25 (List.replicate cls.length false) busy j,([],([],best))))):A5)) gc (by show j<(A25 (List.replicate cls.length false) busy j).length;omega) hg;simp only [A1P];rw [A0 (show (j:Int)<(cls.length:Int) by omega),hrest,w64 (by omega) (by omega)];have e1:=A6e (l:=cls.map G5) (x:=cls) hlm (i:=j) (by omega);have e2:=A6e (l:=List.replicate cls.length false) (x:=busy) hlr (i:=j) (by rw [List.length_replicate];exact hj);rw [List.getElem_map] at e1;rw [List.getElem_replicate] at e2;simp only [cond_true,bO];rw [e1,e2];rfl
   ·simp only [A1P,z1,z2];rw [A3 (by omega)];rfl
  ·refine D3 (R4 A0i) (fun j=>((j:Int),st.2.1,st.2.2.1,st.2.2.2,([]:List K9),([]:List C4),A25 (cls.map G5) cls j,A25 (List.replicate cls.length false) busy j,best,st.1.1,st.1.2,())) cls.length
    (true,(((((st.1.1,st.1.2),(st.2.1,(st.2.2.1,st.2.2.2))),[]),(cls.map G5,(List.replicate cls.length false,([],([],best))))):A5),()) (fun j hj=>?_) ?_
   ·have l1:=A8Q (l:=cls.map G5) (x:=cls) hlm j;have l2:=A8Q (l:=List.replicate cls.length false) (x:=busy) hlr j;have gc:=B4Y (l:=cls.map G5) (x:=cls) hlm hj;rw [List.getElem?_eq_getElem hj] at gc;have hg:=h.cl _ (List.getElem_mem hj);have hsz:=A1G hg;simp only [R4,l1,l2];rw [A0 (show (j:Int)<(cls.length:Int) by omega),A0 (show (0:Int)≤(j:Int) by omega),U5 C1z gc,A9V _ (B0s hg) (by omega),A0 (show (j:Int)<(busy.length:Int) by omega),w64 (by omega) (by omega)];have e1:=A6e (l:=cls.map G5) (x:=cls) hlm (i:=j) (by omega);have e2:=A6e (l:=List.replicate cls.length false) (x:=busy) hlr (i:=j) (by rw [List.length_replicate];exact hj);rw [List.getElem_map] at e1;rw [List.getElem_replicate] at e2;simp only [cond_true,bO,Int.toNat_natCast];rw [e1,e2];rfl
   ·simp only [R4,z1,z2,List.length_map];rw [A3 (by omega)];rfl
theorem E4G{w:A5}(h:RWw w)(e:A7v):D5 w e=some ((evF w e).1,(evF w e).2,())∧A0Y w e=some ((evF w e).1,(evF w e).2,()):=by
 simp only [D5,A0t,A0Y,A9F,evF,(C44 h _).1,(C44 h _).2,(B5s h _).1,(B5s h _).2,(B90 h).1,(B90 h).2,(B91 h _).1,(B91 h _).2,(D7e h _).1,(D7e h _).2,(C9G h _).1,(C9G h _).2,bO];by_cases h1:e.1=1
 ·rw [A0 h1,if_pos h1];exact ⟨rfl,rfl⟩
 rw [A3 h1,if_neg h1];by_cases h2:e.1=2
 ·rw [A0 h2,if_pos h2];exact ⟨rfl,rfl⟩
 rw [A3 h2,if_neg h2];by_cases h3:e.1=3
 ·rw [A0 h3,if_pos h3];exact ⟨rfl,rfl⟩
 rw [A3 h3,if_neg h3];by_cases h4:e.1=4
 ·rw [A0 h4,if_pos h4];exact ⟨rfl,rfl⟩
 rw [A3 h4,if_neg h4];by_cases h5:e.1=5
 ·rw [A0 h5,if_pos h5];exact ⟨rfl,rfl⟩
 rw [A3 h5,if_neg h5];by_cases h6:e.1=6
 ·rw [A0 h6,if_pos h6];exact ⟨rfl,rfl⟩
 rw [A3 h6,if_neg h6];exact ⟨rfl,rfl⟩
theorem D8w(a:List Bool)(h:a.length≤1048576):M6 a=some (a,()):=by
 simp only [M6,A05];have e:(bif decide (([]:List Bool).length+a.length≤9223372036854775807) then bif decide ((([]:List Bool).length+a.length)*1≤140737488355328) then some (([]++a),()) else none else none)=some (a,()):=by
  rw [A0 (by simp;omega),A0 (by simp;omega)];simp
 rw [e];cases a with
 | nil=>simp [B4P]
 | cons x xs=>simp
theorem D8x(a:List Int)(h:a.length≤1048576):O7 a=some (a,()):=by
 simp only [O7,A0p];have e:(bif decide (([]:List Int).length+a.length≤9223372036854775807) then bif decide ((([]:List Int).length+a.length)*8≤140737488355328) then some (([]++a),()) else none else none)=some (a,()):=by
  rw [A0 (by simp;omega),A0 (by simp;omega)];simp
 rw [e];cases a with
 | nil=>simp [B4P]
 | cons x xs=>simp
structure CpS (w:A5):Prop where
 sv:E3B w.1
 cl:w.2.1.length≤1048576
 fi:∀ c∈w.2.1,c.2.1.length≤1048576
 bu:w.2.2.1.length≤1048576
 as_:w.2.2.2.1.length≤1048576
 da:∀ a∈w.2.2.2.1,a.2.2.length≤1048576
 te:w.2.2.2.2.1.length≤1048576
 be_:w.2.2.2.2.2.length≤1048576
theorem E4H{w:A5}(h:RWw w):CpS w:=by
 obtain ⟨⟨st,held⟩,cls,busy,asks,tells,best⟩:=w;unfold RWw at h;simp only at h;obtain ⟨hR,hS,_⟩:=B8u h.g;have hn:=h.n6;have hlb:=h.lb;have hlt:=h.lt;have h60:=h.la;have h6:=h.l6;have h200:=h.lh;exact ⟨⟨hS,by show held.length≤_;omega⟩,by show cls.length≤_;omega,fun c hc=>by have:=A1G (h.cl c hc);omega,by show busy.length≤_;omega,by show asks.length≤_;omega,fun a ha=>(h.ask a ha).2.2.2.2,by show tells.length≤_;omega,by show best.length≤_;omega⟩
theorem C5Q{w:A5}(h:CpS w):A2o w=some (w,()):=by
 obtain ⟨⟨⟨⟨now,sure⟩,ep,nx,ups⟩,held⟩,cls,busy,asks,tells,best⟩:=w;obtain ⟨h1,h2,h3,h4,h5,h6,h7,h8⟩:=h;simp only at h1 h2 h3 h4 h5 h6 h7 h8;simp only [A2o,B05,C33 _ h1,D8w _ h4,C95 _ h7,D8x _ h8,bO];have k1:B8 (A0x L1 (((((now,sure),(ep,(nx,ups))),held),(cls,(busy,(asks,(tells,best))))):A5)) (0,ep,nx,now,sure,ups,held,busy,tells,best,[],())=some (ep,nx,now,sure,ups,held,busy,tells,best,cls,()):=by
  have key:=D3 (A0x L1 (((((now,sure),(ep,(nx,ups))),held),(cls,(busy,(asks,(tells,best))))):A5)) (fun i=>((i:Int),ep,nx,now,sure,ups,held,busy,tells,best,cls.take i,())) cls.length (ep,nx,now,sure,ups,held,busy,tells,best,cls,()) (fun i hi=>?_) ?_
  ·simpa using key
  ·have g1:(i:Int)<(cls.length:Int):=by omega
   have g2:(0:Int)≤(i:Int):=by omega
   have hf:=h3 _ (List.getElem_mem hi);simp only [A0x,A0 g1,A0 g2,cond_true];rw [C3 (k:=B3) (xs:=cls) hi,B0B _ (by omega)];simp only [bO];rw [A0 (by simp;omega),A0 (by simp;omega),w64 (by omega) (by omega),List.take_succ_eq_append_getElem hi];rfl
  ·simp [A0x]
 rw [k1];simp only [bO];have key:=D3 (A3P C6 (((((now,sure),(ep,(nx,ups))),held),(cls,(busy,(asks,(tells,best))))):A5)) (fun i=>((i:Int),ep,nx,now,sure,ups,held,busy,tells,best,cls,asks.take i,())) asks.length ((((((now,sure),(ep,(nx,ups))),held),(cls,(busy,(asks,(tells,best))))):A5),()) (fun i hi=>?_) ?_
 ·simpa using key
 ·have g1:(i:Int)<(asks.length:Int):=by omega
  have g2:(0:Int)≤(i:Int):=by omega
  have hf:=h6 _ (List.getElem_mem hi);simp only [A3P,A0 g1,A0 g2,cond_true];rw [C3 (k:=G0) (xs:=asks) hi,A1D _ (by omega)];simp only [bO];rw [A0 (by simp;omega),A0 (by simp;omega),w64 (by omega) (by omega),List.take_succ_eq_append_getElem hi];rfl
 ·simp [A3P]
@[reducible] def tI(w:A5):Int×Int×List ByteArray×List ByteArray×List TUp×List C4×List A6×List Bool×List K9×List C4×List Int×Unit:=
 (w.1.1.2.1,w.1.1.2.2.1,w.1.1.1.1,w.1.1.1.2,w.1.1.2.2.2,w.1.2,w.2.1,w.2.2.1,w.2.2.2.1,w.2.2.2.2.1,w.2.2.2.2.2,())
@[reducible] def tS(w:A5):List ByteArray×List ByteArray×Int×Int×List TUp×List C4×List A6×List Bool×List K9×List C4×List Int×Unit:=
 (w.1.1.1.1,w.1.1.1.2,w.1.1.2.1,w.1.1.2.2.1,w.1.1.2.2.2,w.1.2,w.2.1,w.2.2.1,w.2.2.2.1,w.2.2.2.2.1,w.2.2.2.2.2,())
noncomputable def Q1:Nat→A5→A5
 | 0,w=>w
 | n+1,w=>bif (L7 w 0).1 then Q1 n (L7 w 0).2 else w
noncomputable def A8S:Nat→A5→A5
 | 0,w=>w
 | n+1,w=>bif (U6 w 0).1 then A8S n (U6 w 0).2 else w
noncomputable def A5B:Nat→A5→A5
 | 0,w=>w
 | n+1,w=>(A1Q (A5B n w) (n:Int)).2
noncomputable def A6F(w:A5):A5:=(A2X (Q1 w.2.2.2.1.length w)).2
noncomputable def A6f(w:A5):A5:=A8S (A6F w).2.2.2.2.1.length (A6F w)
noncomputable def Y0(w:A5):A5:=A5B (A6f w).2.1.length (A6f w)
theorem B92{w:A5}{j:Int}(h:(L7 w j).1=false):(L7 w j).2=w:=by
 revert h;unfold L7;split
 ·exact fun h=>absurd h (by simp)
 ·exact fun _=>rfl
theorem C20{w:A5}{j:Int}(h:(U6 w j).1=false):(U6 w j).2=w:=by
 revert h;unfold U6
 repeat' split
 all_goals first | exact fun _=>rfl | exact fun h=>absurd h (by simp)
theorem C5R{w:A5}(h:(L7 w 0).1=true):(L7 w 0).2.2.2.2.1.length+1=w.2.2.2.1.length:=by
 revert h;unfold L7;split
 ·rename_i hc;exact fun _=>B2Y (j:=0) (by omega)
 ·exact fun h=>absurd h (by simp)
theorem C9H{w:A5}(h:(U6 w 0).1=true):(U6 w 0).2.2.2.2.2.1.length+1=w.2.2.2.2.1.length:=by
 revert h;unfold U6;split
 ·rename_i hc;split
  ·exact fun _=>B2Y (j:=0) (by omega)
  ·exact fun _=>B2Y (j:=0) (by omega)
 ·exact fun h=>absurd h (by simp)
theorem C5S(w:A5)(i:Int):(A1Q w i).2.2.1=w.2.1:=by
 unfold A1Q;split<;>rfl
theorem C0q(w:A5):∀ n,(A5B n w).2.1=w.2.1
 | 0=>rfl
 | n+1=>(C5S _ _).trans (C0q w n)
theorem C0r:∀ n {w:A5},RWw w→RWw (Q1 n w)
 | 0,w,h=>h
 | n+1,w,h=>by
  unfold Q1;cases (L7 w 0).1
  ·exact h
  ·exact C0r n (D2k h 0)
theorem D2l:∀ n {w:A5},RWw w→RWw (A8S n w)
 | 0,w,h=>h
 | n+1,w,h=>by
  unfold A8S;cases (U6 w 0).1
  ·exact h
  ·exact D2l n (D7a h 0)
theorem C5T{w:A5}(h:RWw w):∀ n,RWw (A5B n w)
 | 0=>h
 | n+1=>E2i (C5T h n) _
theorem C5U{w:A5}(h:RWw w):RWw (A6F w):=E2j (C0r _ h)
theorem D2m{w:A5}(h:RWw w):RWw (A6f w):=D2l _ (C5U h)
theorem D0R{w:A5}(h:RWw w):RWw (Y0 w):=C5T (D2m h) _
theorem C5V{w:A5}(h:RWw w):D5 w (2,(0,[]))=some ((L7 w 0).1,(L7 w 0).2,()):=by
 simp only [D5,A0t,(B5s h 0).1];rfl
theorem D8y{w:A5}(h:RWw w):D5 w (3,(0,[]))=some ((A2X w).1,(A2X w).2,()):=by
 simp only [D5,A0t,(B90 h).1];rfl
theorem C9I{w:A5}(h:RWw w):D5 w (4,(0,[]))=some ((U6 w 0).1,(U6 w 0).2,()):=by
 simp only [D5,A0t,(B91 h 0).1];rfl
theorem D8z{w:A5}(h:RWw w)(i:Int):D5 w (1,(i,[]))=some ((A1Q w i).1,(A1Q w i).2,()):=by
 simp only [D5,A0t,(C44 h i).1];rfl
theorem C7g:∀ n {w:A5},RWw w→w.2.2.2.1.length≤n→B8 (M1 D5 2) (tI w)=some (Q1 n w,()):=by
 intro n
 induction n with
 | zero=>
  intro w hr hn;have e:=C5V hr;have e':D5 ((((w.1.1.1.1,w.1.1.1.2),(w.1.1.2.1,(w.1.1.2.2.1,w.1.1.2.2.2))),w.1.2),(w.2.1,(w.2.2.1,(w.2.2.2.1,(w.2.2.2.2.1,w.2.2.2.2.2))))) (2,(0,[]))=_:=e;rw [W0];simp only [M1];rw [e'];cases hb:(L7 w 0).1 with
  | true=>have:=C5R hb;omega
  | false=>rw [B92 hb];rfl
 | succ n ih=>
  intro w hr hn;have e:=C5V hr;have e':D5 ((((w.1.1.1.1,w.1.1.1.2),(w.1.1.2.1,(w.1.1.2.2.1,w.1.1.2.2.2))),w.1.2),(w.2.1,(w.2.2.1,(w.2.2.2.1,(w.2.2.2.2.1,w.2.2.2.2.2))))) (2,(0,[]))=_:=e;rw [W0];simp only [M1];rw [e'];unfold Q1;cases hb:(L7 w 0).1 with
  | true=>
   have:=C5R hb;exact ih (D2k hr 0) (show (L7 w 0).2.2.2.2.1.length≤n by omega)
  | false=>rw [B92 hb];rfl
theorem D0S:∀ n {w:A5},RWw w→w.2.2.2.2.1.length≤n→B8 (M1 D5 4) (tI w)=some (A8S n w,()):=by
 intro n
 induction n with
 | zero=>
  intro w hr hn;have e:=C9I hr;have e':D5 ((((w.1.1.1.1,w.1.1.1.2),(w.1.1.2.1,(w.1.1.2.2.1,w.1.1.2.2.2))),w.1.2),(w.2.1,(w.2.2.1,(w.2.2.2.1,(w.2.2.2.2.1,w.2.2.2.2.2))))) (4,(0,[]))=_:=e;rw [W0];simp only [M1];rw [e'];cases hb:(U6 w 0).1 with
  | true=>have:=C9H hb;omega
  | false=>rw [C20 hb];rfl
 | succ n ih=>
  intro w hr hn;have e:=C9I hr;have e':D5 ((((w.1.1.1.1,w.1.1.1.2),(w.1.1.2.1,(w.1.1.2.2.1,w.1.1.2.2.2))),w.1.2),(w.2.1,(w.2.2.1,(w.2.2.2.1,(w.2.2.2.2.1,w.2.2.2.2.2))))) (4,(0,[]))=_:=e;rw [W0];simp only [M1];rw [e'];unfold A8S;cases hb:(U6 w 0).1 with
  | true=>
   have:=C9H hb;exact ih (D7a hr 0) (show (U6 w 0).2.2.2.2.2.1.length≤n by omega)
  | false=>rw [C20 hb];rfl
theorem D2n{w:A5}(h:RWw w):B8 (V8 D5 (w,())) (0,tI w)=some (A5B w.2.1.length w,()):=by
 have hn:=h.n6;have key:=D3 (V8 D5 (w,())) (fun j=>((j:Int),tI (A5B j w))) w.2.1.length (A5B w.2.1.length w,()) (fun j hj=>?_) ?_
 ·exact key
 ·have hw:=C5T h j;show V8 D5 (w,()) ((j:Int),tI (A5B j w))=some (.inl (((j+1:Nat):Int),tI (A1Q (A5B j w) (j:Int)).2));generalize A5B j w=v at hw ⊢;have e:=D8z hw (j:Int);have e':D5 ((((v.1.1.1.1,v.1.1.1.2),(v.1.1.2.1,(v.1.1.2.2.1,v.1.1.2.2.2))),v.1.2),(v.2.1,(v.2.2.1,(v.2.2.2.1,(v.2.2.2.2.1,v.2.2.2.2.2))))) (1,((j:Int),[]))=_:=e;simp only [V8];rw [A0 (show (j:Int)<(w.2.1.length:Int) by omega),e',w64 (n:=(j:Int)+1) (by omega) (by omega)];rfl
 ·simp only [V8];rw [A3 (by omega)];rfl
theorem C9J{w:A5}(h:RWw w):O9 w=some (Y0 w,()):=by
 have h1:=C0r w.2.2.2.1.length h;have h2:=C5U h;have h3:=D2m h;simp only [O9,A8M,A3W,A6w];have a1:=C7g w.2.2.2.1.length h (Nat.le_refl _);have a2:=D8y h1;have a3:=D0S (A6F w).2.2.2.2.1.length h2 (Nat.le_refl _);have a3':B8 (M1 D5 4) (tI (A2X (Q1 w.2.2.2.1.length w)).2)=some (A6f w,()):=a3;rw [a1];simp only [bO];rw [a2];simp only [bO];rw [a3'];exact D2n h3
noncomputable def A0F:Nat→A5→A5
 | 0,w=>w
 | n+1,w=>Y0 (Y0 (A0F n w))
theorem C5W{w:A5}(h:RWw w):∀ n,RWw (A0F n w)
 | 0=>h
 | n+1=>D0R (D0R (C5W h n))
theorem C7h{w:A5}(h:RWw w)(n:Nat)(hn:n≤100):B8 (A2T O9 (n:Int)) (0,tI w)=some (A0F n w,()):=by
 have key:=D3 (A2T O9 (n:Int)) (fun j=>((j:Int),tI (A0F j w))) n (A0F n w,()) (fun j hj=>?_) ?_
 ·exact key
 ·have hw:=C5W h j;show A2T O9 (n:Int) ((j:Int),tI (A0F j w))=some (.inl (((j+1:Nat):Int),tI (Y0 (Y0 (A0F j w)))));generalize A0F j w=v at hw ⊢;have e':O9 ((((v.1.1.1.1,v.1.1.1.2),(v.1.1.2.1,(v.1.1.2.2.1,v.1.1.2.2.2))),v.1.2),(v.2.1,(v.2.2.1,(v.2.2.2.1,(v.2.2.2.2.1,v.2.2.2.2.2)))))=_:=C9J hw;simp only [A2T];rw [A0 (show (j:Int)<(n:Int) by omega),e',w64 (n:=(j:Int)+1) (by omega) (by omega)];simp only [bO,cond_true];rw [C9J (D0R hw)];simp only [bO];generalize Y0 (Y0 v)=u;rfl
 ·simp only [A2T];rw [A3 (by omega)];rfl
theorem C21{k:Nat}{w:A5}(h:WIw k w):RWw w:=by
 obtain ⟨c,uc,h⟩:=h;have hold:∀ {l:List C4} {us:List TUp},(∀ h'∈l,∃ (i:Nat) (cl:A6),w.2.1[i]? = some cl∧h'.1=(i:Int)∧Fits cl h'.2∧Told cl h'.2 us)→∀ h'∈l,hOk w.2.1.length h':=fun hh h' hm=>by
  obtain ⟨i,cl,g1,g2,g3,_⟩:=hh h' hm;have:=A5l g1;exact ⟨C43 (h.cl i cl g1) g3,by omega,by omega⟩
 have hcl:∀ (i:Nat) (cl:A6),w.2.1[i]? = some cl→cOk cl:=fun i cl g=>⟨(h.cl i cl g).ok,(h.cl i cl g).byt⟩
 exact {
  g:=h.dur.g
  lh:=h.lh
  hd:=hold h.hld
  n6:=h.n6
  lb:=h.lb
  lt:=h.lt
  cl:=fun cl hm=>by
   obtain ⟨i,hi,rfl⟩:=List.getElem_of_mem hm;exact hcl i _ (List.getElem?_eq_getElem hi)
  la:=h.la
  ask:=fun a ha=>by
   obtain ⟨i,cl,g1,g2,g3⟩:=h.ask a ha;have:=A5l g1;obtain ⟨k1,k2,k3⟩:=C5P (hcl i cl g1) g3;exact ⟨k1,by omega,by omega,k2,k3⟩
  l6:=h.l6
  tl:=hold h.tell}
theorem B93{w:A5}{P:Option (Bool×A5×Unit)}{b:Bool}{v u:A5}{c:Bool}(h1:P=some (b,v,()))(h2:P=some (c,u,())):u=v:=by
 rw [h1] at h2;injection h2 with h2;injection h2 with _ h2;injection h2 with h2
 exact h2.symm
theorem E2k{k:Nat}{w:A5}(h:WIw k w)(i:Int)(hi:i<9223372036854775807):WIw k (A1Q w i).2:=by
 obtain ⟨b,w',q,hw⟩:=D7W k w h i hi;rw [B93 (w:=w) q (C44 (C21 h) i).2];exact hw
theorem C5X{k:Nat}{w:A5}(h:WIw k w)(i:Int)(hi:i<9223372036854775807):WIw k (L7 w i).2:=by
 obtain ⟨b,w',q,hw⟩:=D2g k w h i hi;rw [B93 (w:=w) q (B5s (C21 h) i).2];exact hw
theorem E2l{k:Nat}{w:A5}(h:WIw k w):WIw k (A2X w).2:=by
 obtain ⟨b,w',q,hw⟩:=D7X k w h;rw [B93 (w:=w) q (B90 (C21 h)).2];exact hw
theorem D0T{k:Nat}{w:A5}(h:WIw k w)(i:Int)(hi:i<9223372036854775807):WIw k (U6 w i).2:=by
 obtain ⟨b,w',q,hw⟩:=D7Y k w h i hi;rw [B93 (w:=w) q (B91 (C21 h) i).2];exact hw
theorem C0s{k:Nat}:∀ n {w:A5},WIw k w→WIw k (Q1 n w)
 | 0,w,h=>h
 | n+1,w,h=>by
  unfold Q1;cases (L7 w 0).1
  ·exact h
  ·exact C0s n (C5X h 0 (by omega))
theorem D2o{k:Nat}:∀ n {w:A5},WIw k w→WIw k (A8S n w)
 | 0,w,h=>h
 | n+1,w,h=>by
  unfold A8S;cases (U6 w 0).1
  ·exact h
  ·exact D2o n (D0T h 0 (by omega))
theorem C5Y{k:Nat}{w:A5}(h:WIw k w):∀ n,n≤1000→WIw k (A5B n w)
 | 0,_=>h
 | n+1,hn=>E2k (C5Y h n (by omega)) _ (by omega)
theorem B7s{k:Nat}{w:A5}(h:WIw k w):WIw k (A6F w):=E2l (C0s _ h)
theorem C5Z{k:Nat}{w:A5}(h:WIw k w):WIw k (A6f w):=D2o _ (B7s h)
theorem C45{k:Nat}{w:A5}(h:WIw k w):WIw k (Y0 w):=C5Y (C5Z h) _ (by have:=(B8z (C5Z h)).1;omega)
theorem B7t{k:Nat}{w:A5}(h:WIw k w):∀ n,WIw k (A0F n w)
 | 0=>h
 | n+1=>C45 (C45 (B7t h n))
structure Fwd (w v:A5):Prop where
 le:B7q w.1.1.2.2.2 v.1.1.2.2.2
 len:v.2.1.length=w.2.1.length
 same:∀ (i:Nat) (c c':A6),w.2.1[i]? = some c→v.2.1[i]? = some c'→c'.1=c.1∧c'.2.1=c.2.1
theorem A8T(w:A5):Fwd w w:=⟨A2V _,rfl,fun i c c' h h'=>by rw [h] at h';injection h' with h';rw [h'];exact ⟨rfl,rfl⟩⟩
theorem A40{w v u:A5}(h:Fwd w v)(h':Fwd v u):Fwd w u:=
 ⟨C5I h.le h'.le,h'.len.trans h.len,fun i c c' g g'=>by
  have hi:=A5l g;have hv:v.2.1[i]? = some (v.2.1[i]'(by rw [h.len];exact hi)):=List.getElem?_eq_getElem _;obtain ⟨a1,a2⟩:=h.same i _ _ g hv;obtain ⟨b1,b2⟩:=h'.same i _ _ hv g';exact ⟨b1.trans a1,b2.trans a2⟩⟩
theorem D0U{w v:A5}(h1:B7q w.1.1.2.2.2 v.1.1.2.2.2)(h2:v.2.1=w.2.1):Fwd w v:=
 ⟨h1,by rw [h2],fun i c c' g g'=>by rw [h2,g] at g';injection g' with g';rw [g'];exact ⟨rfl,rfl⟩⟩
theorem D2p(w:A5){v:A5}(h1:v.1.1=w.1.1)(h2:v.2.1=w.2.1):Fwd w v:=D0U (by rw [h1];exact A2V _) h2
theorem E18(w:A5)(i:Int):Fwd w (A1Q w i).2:=D0U (by unfold A1Q;split<;>exact A2V _) (C5S w i)
theorem E19(w:A5):Fwd w (A2X w).2:=D0U (by unfold A2X;split<;>exact A2V _) (by unfold A2X;split<;>rfl)
theorem C7i(c:A6)(r:L8):(X1 c r).1=c.1∧(X1 c r).2.1=c.2.1:=by
 unfold X1 hear far
 repeat' split
 all_goals exact ⟨rfl,rfl⟩
theorem D2q{w:A5}(h:RWw w)(j:Int):Fwd w (U6 w j).2:=by
 unfold U6;split
 ·rename_i hc;split
  ·refine ⟨A2V _,List.length_set,fun i c c' g g'=>?_⟩;rcases A9W g' with ⟨e,rfl⟩ | ⟨_,g'⟩
   ·obtain ⟨q,hq⟩:∃ q:Nat,j=(q:Int):=⟨j.toNat,by omega⟩;subst hq;have hql:q<w.2.2.2.2.1.length:=by omega
    have hh:=h.tl _ (List.getElem_mem hql);rw [C3 (k:=B2) (xs:=w.2.2.2.2.1) hql] at e ⊢;obtain ⟨_,g2,g3⟩:=hh;have hi:(w.2.2.2.2.1[q]).1=(i:Int):=by omega
    rw [hi,U5 B3 g];exact C7i c _
   ·rw [g] at g';injection g' with g';rw [g'];exact ⟨rfl,rfl⟩
  ·exact D2p w rfl rfl
 ·exact A8T w
theorem D90{k:Nat}{w:A5}(h:WIw k w)(j:Int):Fwd w (L7 w j).2:=by
 refine D0U ?_ (by unfold L7;split<;>rfl);unfold L7;split
 ·rename_i hc;obtain ⟨c,uc,h⟩:=h;obtain ⟨q,rfl⟩:∃ q:Nat,j=(q:Int):=⟨j.toNat,by omega⟩;have hql:q<w.2.2.2.1.length:=by omega
  obtain ⟨i,cl,hcl,hai,hq⟩:=h.ask _ (List.getElem_mem hql);have hg:=h.cl i cl hcl;obtain ⟨hR,hS,hok⟩:=B2Z h;have hser:=C9E hg hR (fun u hu e=>by
   obtain ⟨i',a',h1,h2,h3⟩:=h.oku u hu;have:=h.dist i' i a' cl h1 hcl (by rw [← h2,e]);subst this;rw [hcl] at h1;injection h1 with h1;rw [h1];exact h3) hq
  simp only;rw [C3 (k:=G0) (xs:=w.2.2.2.1) hql];rcases hser.1 with e | ⟨r,us,g1,g2,g3,g4,g5,g6,e,g7⟩
  ·rw [e];exact A2V _
  ·rw [e];exact B7r g5 g6
 ·exact A2V _
theorem C5a{k:Nat}:∀ n {w:A5},WIw k w→Fwd w (Q1 n w)
 | 0,w,h=>A8T w
 | n+1,w,h=>by
  unfold Q1;cases (L7 w 0).1
  ·exact A8T w
  ·exact A40 (D90 h 0) (C5a n (C5X h 0 (by omega)))
theorem C9K{k:Nat}:∀ n {w:A5},WIw k w→Fwd w (A8S n w)
 | 0,w,h=>A8T w
 | n+1,w,h=>by
  unfold A8S;cases (U6 w 0).1
  ·exact A8T w
  ·exact A40 (D2q (C21 h) 0) (C9K n (D0T h 0 (by omega)))
theorem C9L(w:A5):∀ n,Fwd w (A5B n w)
 | 0=>A8T w
 | n+1=>A40 (C9L w n) (E18 _ _)
theorem D2r{k:Nat}{w:A5}(h:WIw k w):Fwd w (Y0 w):=
 A40 (A40 (A40 (C5a _ h) (E19 _)) (C9K _ (B7s h))) (C9L _ _)
theorem C22{k:Nat}{w:A5}(h:WIw k w):∀ n,Fwd w (A0F n w)
 | 0=>A8T w
 | n+1=>A40 (C22 h n) (A40 (D2r (B7t h n)) (D2r (C45 (B7t h n))))
def lk(st:A7)(c:A6):Nat:=c.2.1.length-List.length (B0C st c.1).1.2.2.1
def B2z(st:A7)(cls:List A6):Nat:=(cls.map (lk st)).sum
theorem D2s(st:A7):∀ (cls:List A6),(∀ c∈cls,c.2.1.length≤400)→B2z st cls≤400*cls.length
 | [],_=>Nat.le_refl _
 | c::cls,h=>by
  have h1:=D2s st cls fun x hx=>h x (List.mem_cons_of_mem _ hx)
  have h2:=h c List.mem_cons_self;unfold B2z at h1 ⊢;simp only [List.map_cons,List.sum_cons,List.length_cons];unfold lk at h1 ⊢;omega
theorem D91{k:Nat}{w:A5}(h:WIw k w):A6W w=some ((B2z w.1.1 w.2.1:Int),()):=by
 obtain ⟨c,uc,h⟩:=h;have hs:=(E0z h).1;have hup:Sm 1048576 (.sl 0 kUp) w.1.1.2.2.2:=Sm.r (Sm.r (Sm.r (Sm.l (Sm.l hs))));have hn:=h.n6;have h400:∀ x∈w.2.1,x.2.1.length≤400:=fun x hx=>by
  obtain ⟨i,hi,rfl⟩:=List.getElem_of_mem hx;exact (U4 (h.cl i _ (List.getElem?_eq_getElem hi))).2.1
 simp only [A6W,B4N];have key:=D3 (A6A W8 w) (fun j=>((B2z w.1.1 (w.2.1.take j):Int),(j:Int),())) w.2.1.length ((B2z w.1.1 w.2.1:Int),()) (fun j hj=>?_) ?_
 ·exact key
 ·have h4:=h400 _ (List.getElem_mem hj);have hle:=D2s w.1.1 (w.2.1.take j) fun x hx=>h400 x (List.mem_of_mem_take hx)
  have hjl:(w.2.1.take j).length≤6:=by rw [List.length_take];omega
  simp only [A6A];rw [A0 (show (j:Int)<(w.2.1.length:Int) by omega),A0 (show (0:Int)≤(j:Int) by omega),C3 (k:=B3) (xs:=w.2.1) hj,B5i w.1.1 _ hup];simp only [cond_true,A4];have hd:List.length (B0C w.1.1 (w.2.1[j]).1).1.2.2.1≤1048576:=by
   rcases C5O w.1.1 (w.2.1[j]).1 with ⟨u,hu,_,e⟩ | e
   ·rw [e];have h1:Sm 1048576 kUp u:=hup.2 u hu;exact (Sm.l (Sm.r (Sm.r h1))).1
   ·rw [e];exact Nat.zero_le _
  have hlk:B2z w.1.1 (w.2.1.take (j+1))=B2z w.1.1 (w.2.1.take j)+lk w.1.1 w.2.1[j]:=by
   unfold B2z;rw [List.take_succ_eq_append_getElem hj,List.map_append,List.sum_append];simp
  have e:(bif decide ((0:Int)>IntKind.i64.wrap (((w.2.1[j]).2.1.length:Int)-(List.length (B0C w.1.1 (w.2.1[j]).1).1.2.2.1:Int))) then (0:Int) else IntKind.i64.wrap (((w.2.1[j]).2.1.length:Int)-(List.length (B0C w.1.1 (w.2.1[j]).1).1.2.2.1:Int)))=(lk w.1.1 w.2.1[j]:Int):=by
   rw [w64 (by omega) (by omega)];unfold lk;by_cases hc:(0:Int)>((w.2.1[j]).2.1.length:Int)-(List.length (B0C w.1.1 (w.2.1[j]).1).1.2.2.1:Int)
   ·rw [A0 hc];simp only [cond_true];omega
   ·rw [A3 hc];simp only [cond_false];omega
  have hlk2:lk w.1.1 w.2.1[j]≤400:=by unfold lk;omega
  rw [e,hlk,w64 (n:=(j:Int)+1) (by omega) (by omega),w64 (n:=(B2z w.1.1 (w.2.1.take j):Int)+(lk w.1.1 w.2.1[j]:Int)) (by omega) (by omega)];rfl
 ·simp only [A6A,List.take_length];rw [A3 (by omega)];rfl
theorem D92{k:Nat}{w:A5}(h:WIw k w):B4K w=some (0,()):=by
 obtain ⟨o1,o2⟩:=C5N h;obtain ⟨i1,i2,i3,i4⟩:=E11 h;simp only [B4K,C4t,o2,i1,i2,i3,i4,bO,Bool.not_true];rfl
theorem D2t{k:Nat}{w:A5}(h:WIw k w)(n:Nat)(hn:n≤100):A5d w (n:Int)=some (A0F n w,()):=by
 have hr:=C21 h;simp only [A5d,B7i,C5Q (E4H hr),(C5N h).2,L3,bO];rw [A0 (show (0:Int)≤(n:Int)∧(n:Int)≤100 by omega)];exact C7h hr n hn
theorem E1A{st:A7}{id:ByteArray}(hU:Ups st.2.2.2)(h:F5 st.2.2.2 id=true):B0C st id=(rd kUp st.2.2.2 (A9 st.2.2.2 id:Int),true,()):=by
 obtain ⟨hlt,_⟩:=H4.1 h;unfold B0C;rw [B8k hU.1 h,if_pos hlt]
theorem size_le(a:List Int)(h:a.length≤1048576)(m:Int)(hm:3≤m∧m≤1000):∃ s,A84 a m=some (s,())∧3≤s∧s≤m:=by
 have ht:(a.length:Int).tdiv 12=(a.length:Int) / 12:=Int.tdiv_eq_ediv_of_nonneg (by omega);simp only [A84,B7Z,ht];rw [w64 (n:=(a.length:Int) / 12) (by omega) (by omega),w64 (by omega) (by omega)];by_cases h1:3+(a.length:Int) / 12>m
 ·rw [A0 h1];exact ⟨_,rfl,by omega⟩
 ·rw [A3 h1];exact ⟨_,rfl,by omega⟩
theorem E1B{us:List TUp}{id:ByteArray}(want:Int)(hn:F5 us id=false) :
  A9 (us.take (A9 us id)++(id,want,[],false)::us.drop (A9 us id)) id=A9 us id∧F5 (us.take (A9 us id)++(id,want,[],false)::us.drop (A9 us id)) id=true∧
   rd kUp (us.take (A9 us id)++(id,want,[],false)::us.drop (A9 us id)) (A9 us id:Int)=(id,want,[],false):=by
 have hle:=A4k us id;generalize hk:A9 us id=k at hle;have hlen:(us.take k++(id,want,[],false)::us.drop k).length=us.length+1:=by
  simp only [List.length_append,List.length_take,List.length_cons,List.length_drop];omega
 have hat:rd kUp (us.take k++(id,want,[],false)::us.drop k) (k:Int)=(id,want,[],false):=by
  rw [C3 (k:=kUp) (xs:=us.take k++(id,want,[],false)::us.drop k) (by omega)];rw [List.getElem_append_right (by simp;omega)];simp [List.length_take,Nat.min_eq_left hle]
 have e1:A9 (us.take k++(id,want,[],false)::us.drop k) id=k:=by
  refine A6a _ _ _ (by omega) (fun j hj=>?_) (fun _=>?_)
  ·rw [C3 (k:=kUp) (xs:=us.take k++(id,want,[],false)::us.drop k) (by omega)];rw [List.getElem_append_left (by simp;omega),List.getElem_take];exact B0l (by omega)
  ·rw [hat];exact A1E _
 refine ⟨e1,?_,hat⟩;unfold F5;rw [e1,hat];simp;omega
def upL(us:List TUp)(id:ByteArray):TUp×Bool×Unit:=B0C ((([],[]),(0,(0,us))):A7) id
theorem D0V{us:List TUp}(ho:Ord us){u:TUp}(hu:u∈us):upL us u.1=(u,true,()):=B8y (st:=((([],[]),(0,(0,us))):A7)) ho hu
theorem D2u{us:List TUp}{id:ByteArray}(h:∀ u∈us,u.1≠id):upL us id=D20:=D8p (st:=((([],[]),(0,(0,us))):A7)) h
theorem D0W{us:List TUp}(hU:Ups us){id:ByteArray}(h:F5 us id=true):upL us id=(rd kUp us (A9 us id:Int),true,()):=E1A (st:=((([],[]),(0,(0,us))):A7)) hU h
theorem E2m{us:List TUp}(hU:Ups us){id:ByteArray}(h:F5 us id=false):upL us id=D20:=by
 show B0C ((([],[]),(0,(0,us))):A7) id=D20;unfold B0C;rw [B8l hU.1 h,if_neg (Nat.lt_irrefl _)]
theorem D5b{us us':List TUp}(hU:Ups us)(hU':Ups us'){id:ByteArray}(h:∀ u:TUp,u.1=id→(u∈us↔u∈us')):upL us' id=upL us id:=by
 by_cases hx:∃ u∈us,u.1=id
 ·obtain ⟨u,hu,e⟩:=hx;rw [← e,D0V hU.1 hu,D0V hU'.1 ((h u e).1 hu)]
 ·rw [D2u (us:=us) fun u hu e=>hx ⟨u,hu,e⟩,D2u (us:=us') fun u hu e=>hx ⟨u,(h u e).2 hu,e⟩]
theorem E2n{us:List TUp}{x u:TUp}(k:Nat)(hx:u.1≠x.1):u∈us↔u∈us.take k++x::us.drop k:=by
 conv=>lhs;rw [← List.take_append_drop k us]
 simp only [List.mem_append,List.mem_cons];have:u≠x:=fun e=>hx (by rw [e])
 constructor
 ·rintro (h | h)
  ·exact .inl h
  ·exact .inr (.inr h)
 ·rintro (h | h | h)
  ·exact .inl h
  ·exact absurd h this
  ·exact .inr h
theorem E1C{us:List TUp}{k:Nat}(hk:k<us.length)(v:TUp):us.set k v=us.take k++v::us.drop (k+1):=by
 rw [List.set_eq_take_append_cons_drop,if_pos hk]
theorem at_eq{us:List TUp}{k:Nat}(hk:k<us.length):us=us.take k++us[k]::us.drop (k+1):=by
 rw [← List.drop_eq_getElem_cons hk,List.take_append_drop]
theorem D2v{us:List TUp}{v u:TUp}{k:Nat}(hk:k<us.length)(h1:u.1≠v.1)(h2:u.1≠(us[k]).1):u∈us↔u∈us.set k v:=by
 rw [E1C hk]
 conv=>lhs;rw [at_eq hk]
 simp only [List.mem_append,List.mem_cons];have e1:u≠v:=fun e=>h1 (by rw [e])
 have e2:u≠us[k]:=fun e=>h2 (by rw [← e])
 constructor
 ·rintro (h | h | h)
  ·exact .inl h
  ·exact absurd h e2
  ·exact .inr (.inr h)
 ·rintro (h | h | h)
  ·exact .inl h
  ·exact absurd h e1
  ·exact .inr (.inr h)
def A6g(u:TUp):Nat:=1+List.length u.2.2.1 / 24+(if @Eq Int (List.length u.2.2.1:Int) u.2.1 then 1 else 0)+(if u.2.2.2=true then 1 else 0)
def A1R(us:List TUp):Nat:=(us.map A6g).sum
theorem B5t(a b:List TUp):A1R (a++b)=A1R a+A1R b:=by
 unfold A1R;rw [List.map_append,List.sum_append]
theorem B2d(u:TUp)(b:List TUp):A1R (u::b)=A6g u+A1R b:=by
 unfold A1R;rw [List.map_cons,List.sum_cons]
theorem D93(us:List TUp)(x:TUp)(k:Nat):A1R (us.take k++x::us.drop k)=A1R us+A6g x:=by
 have h:=B5t (us.take k) (us.drop k);rw [List.take_append_drop] at h;rw [B5t,B2d];omega
theorem C9M{us:List TUp}{k:Nat}(hk:k<us.length)(v:TUp):A1R (us.set k v)+A6g us[k]=A1R us+A6g v:=by
 have h:A1R us=A1R (us.take k)+(A6g us[k]+A1R (us.drop (k+1))):=by
  conv=>lhs;rw [at_eq hk]
  rw [B5t,B2d]
 rw [E1C hk,B5t,B2d];omega
def tt(F L:Nat):Nat:=(F-L+23) / 24+1
def muN(s o:Int)(F:Nat)(b:Bool)(L:Nat):Nat:=
 if s=5 then 0 else
 (if b=true then tt F L else tt F 0+1) +
 (if s=1 then (if b=true then 2 else 0) else if s=2 then 1 else if s=3 then (if b=true∧o=(L:Int) then 0 else 1) else (if b=true then (if L=F then 0 else 2) else 1))
def mu(c:A6)(us:List TUp):Nat:=muN c.2.2.1 c.2.2.2 c.2.1.length (upL us c.1).2.1 (List.length (upL us c.1).1.2.2.1)
theorem A3j{c:A6}{us:List TUp}{u:TUp}(h:upL us c.1=(u,true,())):mu c us=muN c.2.2.1 c.2.2.2 c.2.1.length true (List.length u.2.2.1):=by
 unfold mu;rw [h]
theorem B7u{c:A6}{us:List TUp}(h:upL us c.1=D20):mu c us=muN c.2.2.1 c.2.2.2 c.2.1.length false 0:=by
 unfold mu;rw [h];rfl
theorem D2w{c:A6}{us us':List TUp}(h:upL us' c.1=upL us c.1):mu c us' = mu c us:=by
 unfold mu;rw [h]
theorem E3s{s o:Int}{F L:Nat}{b:Bool}(hF:F≤60):muN s o F b L≤6:=by
 unfold muN tt
 repeat' split
 all_goals omega
theorem E1D{s o:Int}{F L:Nat}{b:Bool}(h:muN s o F b L=0):s=5:=by
 revert h;unfold muN tt;split
 ·intro _;assumption
 ·split<;>intro h<;>omega
theorem E1E{o:Int}{F L:Nat}(h:L=F):muN 4 o F true L=1:=by
 subst h;unfold muN tt;simp
theorem D0X{o:Int}{F L:Nat}(h:o=(L:Int)):muN 3 o F true L=(F-L+23) / 24+1:=by
 subst h;unfold muN tt;simp
theorem E1F{o:Int}{F L:Nat}(h:¬ o=(L:Int)):muN 3 o F true L=(F-L+23) / 24+2:=by
 unfold muN tt;simp [h]
theorem B94{c:A6}{s o:Int}(h:A0S c.2.2.1 s=0)(h0:0≤o)(h1:o≤(c.2.1.length:Int)):hear c (s,o)=(c.1,c.2.1,(if o=(c.2.1.length:Int) then (4:Int) else 3),o):=by
 unfold hear;simp only [h];unfold far;rw [if_pos trivial,if_pos ⟨h0,h1⟩];split<;>rfl
theorem B5u{c:A6}{s o t:Int}(h:A0S c.2.2.1 s=t)(h0:t≠0):hear c (s,o)=(c.1,c.2.1,t,c.2.2.2):=by
 unfold hear;simp only [h];rw [if_neg h0]
structure D7f (c:A6) (st st':A7) (resp:L8):Prop where
 less:mu (hear c resp) st'.2.2.2+1≤mu c st.2.2.2
 oth:∀ id,id≠c.1→upL st'.2.2.2 id=upL st.2.2.2 id
 grew:st' = st∨∃ rc us',B3b rc∧rc.1=st.2.1∧rc.2.1=st.2.2.1∧st.2.2.1<(st.1.1.length:Int)∧J4 st.2.2.2 rc=some us'∧st' = wrote st rc us'∧A1R st.2.2.2+1≤A1R us'
theorem A41{c:A6}{st:A7}{resp:L8}(h:mu (hear c resp) st.2.2.2+1≤mu c st.2.2.2):D7f c st st resp:=⟨h,fun _ _=>rfl,.inl rfl⟩
theorem D5c{c:A6}(hc:ClG c){st:A7}(hR:Rt st)(hu:∀ u∈st.2.2.2,u.1=c.1→OkU c.2.1 u)(hlf:¬ (st.1.1.length:Int)-st.2.2.1<1)(h10:¬ 10≤st.2.2.2.length){r:A1e}{dat:List Int}(hq:G6 c=(r,dat,true,())) :
  D7f c st (A5k st r dat).1 (A5k st r dat).2:=by
 obtain ⟨hid,hlen,h1,h5,o0,o1⟩:=U4 hc;have hU:=hR.up;have has:F5 st.2.2.2 c.1=true→∃ u∈st.2.2.2,u.1=c.1∧lenOf st c.1=(List.length u.2.2.1:Int)∧rd kUp st.2.2.2 (A9 st.2.2.2 c.1:Int)=u∧upL st.2.2.2 c.1=(u,true,())∧OkU c.2.1 u:=fun hh=>by
  obtain ⟨u,hm,e,hl,hrd⟩:=B0r hh;exact ⟨u,hm,e,hl,hrd,by rw [← e];exact D0V hU.1 hm,hu u hm e⟩
 have hno:F5 st.2.2.2 c.1=false→upL st.2.2.2 c.1=D20:=fun hh=>E2m hU hh
 have code3:F5 st.2.2.2 c.1=true→G3 st 3 c.1=(409,lenOf st c.1):=fun hh=>by unfold G3;rw [if_neg (by omega),if_pos (.inl rfl)]
 have code4:F5 st.2.2.2 c.1=true→G3 st 4 c.1=(409,lenOf st c.1):=fun hh=>by unfold G3;rw [if_neg (by omega),if_pos (.inr rfl)]
 have code2:G3 st 2 c.1=(404,-1):=by unfold G3;rw [if_pos rfl]
 unfold G6 at hq;rw [hc.ok] at hq;simp only [Bool.true_eq_false,if_false] at hq;split at hq
 ·rename_i s1;injection hq with q1 q2
  injection q2 with q2 _
  subst q1;subst q2;simp only [A5k,if_true];cases hh:F5 st.2.2.2 c.1 with
  | true=>
   obtain ⟨u,hm,e,hl,hrd,hup,hok⟩:=has hh;have hF:A0a st c.1 (c.2.1.length:Int)=(st,3):=by
    unfold A0a;rw [if_pos ⟨hid,by omega,by omega⟩,if_pos hh]
   rw [hF,if_neg (by simp),code3 hh,hl];refine A41 ?_;rw [B5u (t:=2) (by rw [s1];rfl) (by omega),A3j hup,A3j (c:=(c.1,c.2.1,2,c.2.2.2)) hup,s1];show muN 2 _ _ _ _+1≤muN 1 _ _ _ _;unfold muN;simp
  | false=>
   have hup:=hno hh;obtain ⟨m1,m2,m3⟩:=E1B (us:=st.2.2.2) (id:=c.1) (c.2.1.length:Int) hh;have hF:A0a st c.1 (c.2.1.length:Int)=(wrote st (st.2.1,st.2.2.1,1,c.1,(c.2.1.length:Int),[]) (st.2.2.2.take (A9 st.2.2.2 c.1)++(c.1,(c.2.1.length:Int),[],false)::st.2.2.2.drop (A9 st.2.2.2 c.1)),0):=by
    unfold A0a;rw [if_pos ⟨hid,by omega,by omega⟩,if_neg (by rw [hh];simp),if_neg (fun hx=>hx.elim hlf h10)]
   have hr:=A5i hR.g 1 (c.2.1.length:Int) c.1 hid hlf (.inl ⟨rfl,by omega,by omega⟩);have hf:=B0o (st:=st) (id:=c.1) (want:=(c.2.1.length:Int)) (by rw [hh];simp) h10;have hU':=A3w hU ⟨hr,T4⟩ hf;rw [hF];simp only [if_true];refine ⟨?_,fun id hne=>?_,.inr ⟨_,_,⟨hr,T4⟩,rfl,rfl,by omega,hf,rfl,?_⟩⟩
   ·have hup':=D0W hU' m2;rw [m1,m3] at hup';rw [B94 (by rw [s1];rfl) (Int.le_refl _) (by omega),B7u hup];show mu _ (st.2.2.2.take (A9 st.2.2.2 c.1)++(c.1,(c.2.1.length:Int),[],false)::st.2.2.2.drop (A9 st.2.2.2 c.1))+1≤_;rw [A3j (c:=(c.1,c.2.1,(if (0:Int)=(c.2.1.length:Int) then (4:Int) else 3),0)) hup',s1];show muN (if (0:Int)=(c.2.1.length:Int) then (4:Int) else 3) 0 c.2.1.length true 0+1≤muN 1 _ _ _ _;by_cases hz:(0:Int)=(c.2.1.length:Int)
    ·rw [if_pos hz];unfold muN;simp;rw [if_pos (by omega)];omega
    ·rw [if_neg hz];unfold muN;simp
   ·refine D5b hU hU' fun u hue=>E2n _ (by rw [hue];exact hne)
   ·rw [D93];show _+1≤_+A6g _;unfold A6g;omega
 ·split at hq
  ·rename_i s2;injection hq with q1 q2
   injection q2 with q2 _
   subst q1;subst q2;simp only [A5k];rw [if_neg (by omega),if_neg (by omega),if_neg (by omega),if_neg (by omega)];unfold D0M;simp only;cases hh:F5 st.2.2.2 c.1 with
   | true=>
    obtain ⟨u,hm,e,hl,hrd,hup,hok⟩:=has hh;have hL:=hok.len;rw [if_pos rfl,if_neg (by simp),hl];refine A41 ?_;rw [B94 (by rw [s2];rfl) (by omega) (by omega),A3j hup,A3j (c:=(c.1,c.2.1,(if (List.length u.2.2.1:Int)=(c.2.1.length:Int) then (4:Int) else 3),(List.length u.2.2.1:Int))) hup,s2];show muN (if (List.length u.2.2.1:Int)=(c.2.1.length:Int) then (4:Int) else 3) (List.length u.2.2.1:Int) c.2.1.length true (List.length u.2.2.1)+1≤muN 2 _ _ _ _;by_cases hz:(List.length u.2.2.1:Int)=(c.2.1.length:Int)
    ·rw [if_pos hz];unfold muN;simp;rw [if_pos (by omega)];omega
    ·rw [if_neg hz];unfold muN;simp
   | false=>
    have hup:=hno hh;rw [if_neg (by simp)];refine A41 ?_;rw [B5u (t:=1) (by rw [s2];rfl) (by omega),B7u hup,B7u (c:=(c.1,c.2.1,1,c.2.2.2)) hup,s2];show muN 1 _ _ _ _+1≤muN 2 _ _ _ _;unfold muN;simp
  ·split at hq
   ·rename_i s3;injection hq with q1 q2
    injection q2 with q2 _
    subst q1;have hoff:=hc.off s3;obtain ⟨ho,hoe⟩:∃ o:Nat,c.2.2.2=(o:Int):=⟨c.2.2.2.toNat,by omega⟩;rw [hoe,Int.toNat_natCast] at q2;have hdl:dat.length=min (ho+24) c.2.1.length-ho:=by rw [← q2];simp [List.length_drop,List.length_take]
    have hbd:Byt dat:=by rw [← q2];exact A4i (A22 hc.byt _) _
    have hpc:nPc dat=1:=by unfold nPc;omega
    simp only [A5k];rw [if_neg (by omega),if_pos trivial];cases hh:F5 st.2.2.2 c.1 with
    | false=>
     have hup:=hno hh;have hF:A23 st c.1 c.2.2.2 dat=(st,2):=by
      unfold A23;rw [if_pos ⟨hid,by omega,by omega⟩,if_neg (by rw [hh];simp)]
     rw [hF,if_neg (by simp),code2];refine A41 ?_;rw [B5u (t:=1) (by rw [s3];rfl) (by omega),B7u hup,B7u (c:=(c.1,c.2.1,1,c.2.2.2)) hup,s3];show muN 1 _ _ _ _+1≤muN 3 _ _ _ _;unfold muN;simp
    | true=>
     obtain ⟨u,hm,e,hl,hrd,hup,hok⟩:=has hh;have hL:=hok.len;have hW:=hok.want;obtain ⟨hlt,_⟩:=H4.1 hh;have hat:st.2.2.2[A9 st.2.2.2 c.1]=u:=by rw [← C3 (k:=kUp) (xs:=st.2.2.2) hlt];exact hrd
     by_cases hL0:c.2.2.2=(List.length u.2.2.1:Int)
     ·have hnd:¬ u.2.2.2=true:=fun hd=>by have:=hok.fin hd;omega
      have h4:¬ ((rd kUp st.2.2.2 (A9 st.2.2.2 c.1:Int)).2.2.2=true∨c.2.2.2≠(List.length (rd kUp st.2.2.2 (A9 st.2.2.2 c.1:Int)).2.2.1:Int)∨c.2.2.2+(dat.length:Int)>(rd kUp st.2.2.2 (A9 st.2.2.2 c.1:Int)).2.1):=by
       rw [hrd,not_or,not_or];refine ⟨hnd,fun h=>h hL0,?_⟩;rw [show u.2.1=(c.2.1.length:Int) from hW];omega
      have hl5:¬ (st.1.1.length:Int)-st.2.2.1<(nPc dat:Int):=by rw [hpc];exact hlf
      have hcc:=B2T hR hbd hid (by omega) hh h4 hl5;obtain ⟨hr,hf,hI⟩:=B0n hcc (D5M hcc) (show 0<nPc dat by omega);have hpl:K0 24 dat 0=dat:=by unfold K0;rw [Nat.zero_mul,Nat.zero_add,List.drop_zero,List.take_of_length_le (by omega)]
      rw [hpl] at hr hf;have hput1:putAt st c.1 c.2.2.2 dat 1=wrote st (st.2.1,st.2.2.1,2,c.1,c.2.2.2+((0*24:Nat):Int),dat) (B0m st.2.2.2 c.1 dat):=by
       show D0I (putAt st c.1 c.2.2.2 dat 0) c.1 _ (K0 24 dat 0)=_;rw [hpl];rfl
      have hF:A23 st c.1 c.2.2.2 dat=(wrote st (st.2.1,st.2.2.1,2,c.1,c.2.2.2+((0*24:Nat):Int),dat) (B0m st.2.2.2 c.1 dat),0):=by
       unfold A23;rw [if_pos ⟨hid,by omega,by omega⟩,if_pos hh,if_neg h4,if_neg hl5,hpc,hput1]
      have hcat:B0m st.2.2.2 c.1 dat=st.2.2.2.set (A9 st.2.2.2 c.1) (u.1,u.2.1,u.2.2.1++dat,u.2.2.2):=by unfold B0m;rw [hrd]
      have hU':=A3w hU ⟨hr,hbd⟩ hf;rw [hF];simp only [if_true];rw [hcat] at hf hU' ⊢;obtain ⟨i1,i2,i3⟩:=C0f hh (u.1,u.2.1,u.2.2.1++dat,u.2.2.2) (by rw [hrd]);refine ⟨?_,fun id hne=>?_,.inr ⟨_,_,⟨hr,hbd⟩,rfl,rfl,by omega,hf,rfl,?_⟩⟩
      ·have hup':=D0W hU' i1;rw [i2,i3] at hup';rw [B94 (by rw [s3];rfl) (by omega) (by omega),A3j hup];show mu _ (st.2.2.2.set (A9 st.2.2.2 c.1) (u.1,u.2.1,u.2.2.1++dat,u.2.2.2))+1≤_;rw [A3j (c:=(c.1,c.2.1,(if c.2.2.2+(dat.length:Int)=(c.2.1.length:Int) then (4:Int) else 3),c.2.2.2+(dat.length:Int))) hup',s3];show muN (if c.2.2.2+(dat.length:Int)=(c.2.1.length:Int) then (4:Int) else 3) (c.2.2.2+(dat.length:Int)) c.2.1.length true (u.2.2.1++dat).length+1≤muN 3 c.2.2.2 c.2.1.length true (List.length u.2.2.1);rw [List.length_append,D0X hL0];by_cases hz:c.2.2.2+(dat.length:Int)=(c.2.1.length:Int)
       ·rw [if_pos hz,E1E (by omega)];omega
       ·rw [if_neg hz,D0X (by omega)];omega
      ·exact D5b hU hU' fun x hxe=>D2v hlt (by rw [hxe];exact fun h=>hne (h.trans e)) (by rw [hxe,hat];exact fun h=>hne (h.trans e))
      ·have hcs:=C9M hlt (u.1,u.2.1,u.2.2.1++dat,u.2.2.2);rw [hat] at hcs;have hcu:A6g u+1≤A6g (u.1,u.2.1,u.2.2.1++dat,u.2.2.2):=by
        unfold A6g;show _≤1+(u.2.2.1++dat).length / 24+(if @Eq Int ((u.2.2.1++dat).length:Int) u.2.1 then 1 else 0)+(if u.2.2.2=true then 1 else 0);rw [List.length_append,show u.2.1=(c.2.1.length:Int) from hW,if_neg (show ¬ @Eq Int (List.length u.2.2.1:Int) (c.2.1.length:Int) by omega)];by_cases hz:((List.length u.2.2.1+dat.length:Nat):Int)=(c.2.1.length:Int)
        ·rw [if_pos hz];omega
        ·rw [if_neg hz];omega
       show A1R st.2.2.2+1≤A1R (st.2.2.2.set (A9 st.2.2.2 c.1) (u.1,u.2.1,u.2.2.1++dat,u.2.2.2));omega
     ·have hF:A23 st c.1 c.2.2.2 dat=(st,4):=by
       unfold A23;rw [if_pos ⟨hid,by omega,by omega⟩,if_pos hh,if_pos (.inr (.inl (by rw [hrd];exact hL0)))]
      rw [hF,if_neg (by simp),code4 hh,hl];refine A41 ?_;rw [B94 (by rw [s3];rfl) (by omega) (by omega),A3j hup,A3j (c:=(c.1,c.2.1,(if (List.length u.2.2.1:Int)=(c.2.1.length:Int) then (4:Int) else 3),(List.length u.2.2.1:Int))) hup,s3];show muN (if (List.length u.2.2.1:Int)=(c.2.1.length:Int) then (4:Int) else 3) (List.length u.2.2.1:Int) c.2.1.length true (List.length u.2.2.1)+1≤muN 3 c.2.2.2 c.2.1.length true (List.length u.2.2.1);rw [E1F hL0];by_cases hz:(List.length u.2.2.1:Int)=(c.2.1.length:Int)
      ·rw [if_pos hz,E1E (by omega)];omega
      ·rw [if_neg hz,D0X rfl];omega
   ·split at hq
    ·rename_i s4;injection hq with q1 q2
     injection q2 with q2 _
     subst q1;subst q2;simp only [A5k];rw [if_neg (by omega),if_neg (by omega),if_pos trivial];cases hh:F5 st.2.2.2 c.1 with
     | false=>
      have hup:=hno hh;have hF:X3 st c.1 ((A2t c.2.1 ^^^ 4294967295:Nat):Int)=(st,2):=by
       unfold X3;rw [if_pos hid,if_neg (by rw [hh];simp)]
      rw [hF,if_neg (by simp),code2];refine A41 ?_;rw [B5u (t:=1) (by rw [s4];rfl) (by omega),B7u hup,B7u (c:=(c.1,c.2.1,1,c.2.2.2)) hup,s4];show muN 1 _ _ _ _+1≤muN 4 _ _ _ _;unfold muN;simp
     | true=>
      obtain ⟨u,hm,e,hl,hrd,hup,hok⟩:=has hh;have hL:=hok.len;have hW:=hok.want;obtain ⟨hlt,_⟩:=H4.1 hh;have hat:st.2.2.2[A9 st.2.2.2 c.1]=u:=by rw [← C3 (k:=kUp) (xs:=st.2.2.2) hlt];exact hrd
      by_cases hLF:List.length u.2.2.1=c.2.1.length
      ·have hda:u.2.2.1=c.2.1:=by
        have:=hok.dat;rw [hLF,List.take_length] at this;exact this
       have hnl:¬ (List.length (rd kUp st.2.2.2 (A9 st.2.2.2 c.1:Int)).2.2.1:Int)<(rd kUp st.2.2.2 (A9 st.2.2.2 c.1:Int)).2.1:=by
        rw [hrd,show u.2.1=(c.2.1.length:Int) from hW];omega
       have hcr:¬ ((A2t c.2.1 ^^^ 4294967295:Nat):Int)≠((A2t (rd kUp st.2.2.2 (A9 st.2.2.2 c.1:Int)).2.2.1 ^^^ 4294967295:Nat):Int):=fun h=>h (by rw [hrd,hda])
       have hear5:∀ o,hear c ((200:Int),o)=(c.1,c.2.1,5,c.2.2.2):=fun o=>B5u (t:=5) (by rw [s4];rfl) (by omega)
       by_cases hd:u.2.2.2=true
       ·have hF:X3 st c.1 ((A2t c.2.1 ^^^ 4294967295:Nat):Int)=(st,0):=by
         unfold X3;rw [if_pos hid,if_pos hh,if_neg hnl,if_neg hcr,if_pos (by rw [hrd];exact hd)]
        rw [hF];simp only [if_true];refine A41 ?_;rw [hear5,A3j hup,A3j (c:=(c.1,c.2.1,5,c.2.2.2)) hup,s4];show muN 5 _ _ _ _+1≤muN 4 _ _ _ _;unfold muN tt;rw [if_pos rfl,if_neg (by omega),if_pos rfl];omega
       ·have hF:X3 st c.1 ((A2t c.2.1 ^^^ 4294967295:Nat):Int)=(wrote st (st.2.1,st.2.2.1,3,c.1,0,[]) (st.2.2.2.set (A9 st.2.2.2 c.1) (u.1,u.2.1,u.2.2.1,true)),0):=by
         unfold X3;rw [if_pos hid,if_pos hh,if_neg hnl,if_neg hcr,if_neg (by rw [hrd];exact hd),if_neg hlf,hrd]
        have hr:=A5i hR.g 3 0 c.1 hid hlf (.inr ⟨.inl rfl,rfl⟩);have hf:=B0p hU hh hnl (by rw [hrd];exact hd);rw [hrd] at hf;have hU':=A3w hU ⟨hr,T4⟩ hf;obtain ⟨i1,i2,i3⟩:=C0f hh (u.1,u.2.1,u.2.2.1,true) (by rw [hrd]);rw [hF];simp only [if_true];refine ⟨?_,fun id hne=>?_,.inr ⟨_,_,⟨hr,T4⟩,rfl,rfl,by omega,hf,rfl,?_⟩⟩
        ·have hup':=D0W hU' i1;rw [i2,i3] at hup';rw [hear5,A3j hup];show mu _ (st.2.2.2.set (A9 st.2.2.2 c.1) (u.1,u.2.1,u.2.2.1,true))+1≤_;rw [A3j (c:=(c.1,c.2.1,5,c.2.2.2)) hup',s4];show muN 5 _ _ _ _+1≤muN 4 _ _ _ _;unfold muN tt;rw [if_pos rfl,if_neg (by omega),if_pos rfl];omega
        ·exact D5b hU hU' fun x hxe=>D2v hlt (by rw [hxe];exact fun h=>hne (h.trans e)) (by rw [hxe,hat];exact fun h=>hne (h.trans e))
        ·have hcs:=C9M hlt (u.1,u.2.1,u.2.2.1,true);rw [hat] at hcs;have hcu:A6g u+1≤A6g (u.1,u.2.1,u.2.2.1,true):=by
          unfold A6g;simp only [if_neg hd,if_true];omega
         show A1R st.2.2.2+1≤A1R (st.2.2.2.set (A9 st.2.2.2 c.1) (u.1,u.2.1,u.2.2.1,true));omega
      ·have hF:X3 st c.1 ((A2t c.2.1 ^^^ 4294967295:Nat):Int)=(st,4):=by
        unfold X3;rw [if_pos hid,if_pos hh,if_pos (by rw [hrd,show u.2.1=(c.2.1.length:Int) from hW];omega)]
       rw [hF,if_neg (by simp),code4 hh,hl];refine A41 ?_;rw [B5u (t:=2) (by rw [s4];rfl) (by omega),A3j hup,A3j (c:=(c.1,c.2.1,2,c.2.2.2)) hup,s4];show muN 2 _ _ _ _+1≤muN 4 _ _ _ _;unfold muN;simp;rw [if_neg hLF];omega
    ·unfold B8f at hq;injection hq with _ hq
     injection hq with _ hq
     injection hq with hq _
     cases hq
theorem D5d{α:Type} [DecidableEq α]:∀ (ys xs:List α),xs.Nodup→(∀ x∈xs,x∈ys)→xs.length≤ys.length
 | [],xs,_,h=>by
  cases xs with
  | nil=>exact Nat.le_refl _
  | cons x t=>exact absurd (h x List.mem_cons_self) (by simp)
 | y::ys,xs,hn,h=>by
  have h2:=D5d ys (xs.erase y) (hn.erase y) fun x hx=>by
   obtain ⟨h3,h4⟩:=hn.mem_erase_iff.1 hx;rcases List.mem_cons.1 (h x h4) with e | e
   ·exact absurd e h3
   ·exact e
  have h3:=List.length_erase (a:=y) (l:=xs);simp only [List.length_cons];split at h3<;>omega
theorem B4a:∀ {l:List Int},(∀ x,l.count x≤1)→l.Nodup
 | [],_=>List.nodup_nil
 | x::t,h=>by
  refine List.nodup_cons.2 ⟨fun hx=>?_,B4a fun y=>?_⟩
  ·have h1:=h x;rw [List.count_cons_self] at h1;exact List.count_eq_zero.1 (by omega) hx
  ·have h1:=h y;rw [List.count_cons] at h1;omega
theorem E2o{us:List TUp}{cls:List A6}(hU:Ups us)(h:∀ u∈us,∃ c∈cls,u.1=c.1):us.length≤cls.length:=by
 have h1:(us.map (·.1)).Nodup:=List.pairwise_map.2 (hU.1.imp fun hab e=>by rw [e,A1E] at hab;cases hab);have h2:=D5d (cls.map (·.1)) (us.map (·.1)) h1 fun x hx=>by
  obtain ⟨u,hu,rfl⟩:=List.mem_map.1 hx;obtain ⟨c,hc,e⟩:=h u hu;exact List.mem_map.2 ⟨c,hc,e.symm⟩
 simpa using h2
theorem D5e{k:Nat}{w:A5}(h:WIw k w):w.2.2.2.1.length+w.1.2.length+w.2.2.2.2.1.length≤w.2.1.length:=by
 obtain ⟨c,uc,h⟩:=h;have eW:∀ i:Nat,cW i w.2.2.2.1=(w.2.2.2.1.map (·.1)).count (i:Int):=fun i=>by unfold cW List.count;rw [List.countP_map];rfl
 have eH:∀ (i:Nat) (l:List C4),cH i l=(l.map (·.1)).count (i:Int):=fun i l=>by unfold cH List.count;rw [List.countP_map];rfl
 have hin:∀ x∈w.2.2.2.1.map (·.1)++(w.1.2.map (·.1)++w.2.2.2.2.1.map (·.1)),∃ i:Nat,i<w.2.1.length∧x=(i:Int):=fun x hx=>by
  rcases List.mem_append.1 hx with hx | hx
  ·obtain ⟨a,ha,rfl⟩:=List.mem_map.1 hx;obtain ⟨i,cl,h1,h2,_⟩:=h.ask a ha;exact ⟨i,A5l h1,h2⟩
  ·rcases List.mem_append.1 hx with hx | hx
   ·obtain ⟨a,ha,rfl⟩:=List.mem_map.1 hx;obtain ⟨i,cl,h1,h2,_⟩:=h.hld a ha;exact ⟨i,A5l h1,h2⟩
   ·obtain ⟨a,ha,rfl⟩:=List.mem_map.1 hx;obtain ⟨i,cl,h1,h2,_⟩:=h.tell a ha;exact ⟨i,A5l h1,h2⟩
 have hnd:(w.2.2.2.1.map (·.1)++(w.1.2.map (·.1)++w.2.2.2.2.1.map (·.1))).Nodup:=B4a fun x=>by
  by_cases hx:x∈w.2.2.2.1.map (·.1)++(w.1.2.map (·.1)++w.2.2.2.2.1.map (·.1))
  ·obtain ⟨i,hi,rfl⟩:=hin x hx;obtain ⟨b,hb⟩:∃ b,w.2.2.1[i]? = some b:=⟨_,List.getElem?_eq_getElem (by rw [h.lb];exact hi)⟩;have:=h.cnt i b hb;rw [List.count_append,List.count_append,← eW i,← eH i,← eH i];split at this<;>omega
  ·rw [List.count_eq_zero.2 hx];omega
 have:=D5d ((List.range w.2.1.length).map fun i:Nat=>(i:Int)) _ hnd fun x hx=>by
  obtain ⟨i,hi,rfl⟩:=hin x hx;exact List.mem_map.2 ⟨i,List.mem_range.2 hi,rfl⟩
 simp only [List.length_append,List.length_map,List.length_range] at this;omega
structure Cap (w:A5):Prop where
 n3:w.2.1.length≤3
 f60:∀ c∈w.2.1,c.2.1.length≤60
 d40:w.2.1 = []∨w.1.1.1.1.length=40
 cnt:∀ m us,m≤(B6 w.1.1.1.1).length→G2 [] ((B6 w.1.1.1.1).take m)=some us→m≤A1R us
theorem D5f{w v:A5}(h:Cap w)(hl:v.2.1.length=w.2.1.length)(hf:∀ c∈v.2.1,∃ c'∈w.2.1,c.2.1=c'.2.1)(hd:v.1.1.1.1=w.1.1.1.1):Cap v where
 n3:=by rw [hl];exact h.n3
 f60:=fun c hc=>by
  obtain ⟨c',h1,h2⟩:=hf c hc;rw [h2];exact h.f60 c' h1
 d40:=by
  rw [hd];exact h.d40.elim (fun e=>.inl (List.eq_nil_of_length_eq_zero (by rw [hl,e];rfl))) .inr
 cnt:=by rw [hd];exact h.cnt
theorem B95{w v:A5}(h:Cap w)(hc:v.2.1=w.2.1)(hd:v.1.1.1.1=w.1.1.1.1):Cap v:=
 D5f h (by rw [hc]) (fun c hx=>⟨c,by rw [← hc];exact hx,rfl⟩) hd
theorem D2x:∀ {us:List TUp},(∀ u∈us,A6g u≤5)→A1R us≤5*us.length
 | [],_=>Nat.zero_le _
 | u::us,h=>by
  have h1:=h u List.mem_cons_self;have h2:=D2x (us:=us) fun x hx=>h x (List.mem_cons_of_mem _ hx)
  rw [B2d,List.length_cons];omega
theorem E1G{f:List Int}{u:TUp}(h:OkU f u)(hf:f.length≤60):A6g u≤5:=by
 have h1:=h.len;unfold A6g;split<;>split<;>omega
theorem E1H{k:Nat}{w:A5}(h:WIw k w)(hc:Cap w)(hne:w.2.1≠ []):(¬ (w.1.1.1.1.length:Int)-w.1.1.2.2.1<1)∧¬ 10≤w.1.1.2.2.2.length:=by
 obtain ⟨c,uc,h⟩:=h;have hU:=B4X h.dur.g;have hfew:=E2o (cls:=w.2.1) hU fun u hu=>by
  obtain ⟨i,a,h1,h2,_⟩:=h.oku u hu;exact ⟨a,List.mem_of_getElem? h1,h2⟩
 have hcost:=D2x (us:=w.1.1.2.2.2) fun u hu=>by
  obtain ⟨i,a,h1,h2,h3⟩:=h.oku u hu;exact E1G h3 (hc.f60 a (List.mem_of_getElem? h1))
 have hn:=hc.cnt _ _ (Nat.le_refl _) (by rw [List.take_length];exact h.dur.g.up);have hnx:=h.dur.g.nx;have n3:=hc.n3;rcases hc.d40 with e | e
 ·exact absurd e hne
 ·exact ⟨by omega,by omega⟩
theorem C5b{k:Nat}{w:A5}(h:WIw k w)(hc:Cap w){q:Nat}(hq:q<w.2.2.2.1.length):∃ (i:Nat) (cl:A6) (st':A7) (resp:L8),
  w.2.1[i]? = some cl∧(w.2.2.2.1[q]).1=(i:Int)∧D7f cl w.1.1 st' resp∧GoodS w.1.1∧
  L7 w (q:Int)=(true,((st',w.1.2 ++ [((i:Int),resp)]),(w.2.1,(w.2.2.1,(rm w.2.2.2.1 q,w.2.2.2.2))))):=by
 have hfew:=D5e h;have h':=h;obtain ⟨c,uc,h⟩:=h;obtain ⟨i,cl,hcl,hai,hnq⟩:=h.ask _ (List.getElem_mem hq);have hne:w.2.1≠ []:=fun e=>by rw [e] at hcl;cases hcl
 obtain ⟨r1,r2⟩:=E1H h' hc hne;obtain ⟨hR,hS,hok⟩:=B2Z h;have hlv:=D5c (h.cl i cl hcl) hR (fun u hu e=>by
  obtain ⟨i',a',h1,h2,h3⟩:=h.oku u hu;have:=h.dist i' i a' cl h1 hcl (by rw [← h2,e]);subst this;rw [hcl] at h1;injection h1 with h1;rw [h1];exact h3) r1 r2 hnq
 have n6:=h.n6;refine ⟨i,cl,_,_,hcl,hai,hlv,h.dur.g,?_⟩;unfold L7;rw [if_pos ⟨by omega,by omega,by omega⟩,C3 (k:=G0) (xs:=w.2.2.2.1) hq,hai,Int.toNat_natCast]
theorem D2y{us us':List TUp}{r:H5}(h:J4 us r=some us'):G2 us [r]=some us':=by
 simp only [G2,h]
theorem C9N{k:Nat}{w:A5}(h:WIw k w)(hc:Cap w)(j:Int):Cap (L7 w j).2:=by
 by_cases hj:0≤j∧j<(w.2.2.2.1.length:Int)
 ·obtain ⟨q,rfl⟩:∃ q:Nat,j=(q:Int):=⟨j.toNat,by omega⟩;obtain ⟨i,cl,st',resp,h1,h2,hlv,hG,e⟩:=C5b h hc (q:=q) (by omega);rw [e];rcases hlv.grew with es | ⟨rc,us',g1,g2,g3,g4,g5,g6,g7⟩
  ·exact B95 hc rfl (by rw [es])
  ·have hsc:=(B2W hG g1 g2 g3 g4 g5).2;have hup:=hG.up;refine ⟨hc.n3,hc.f60,?_,?_⟩
   ·refine hc.d40.elim .inl fun e=>.inr ?_
    show st'.1.1.length=40;rw [g6];show (w.1.1.1.1.set _ _).length=40;rw [List.length_set];exact e
   ·show ∀ m us,m≤(B6 st'.1.1).length→G2 [] ((B6 st'.1.1).take m)=some us→m≤A1R us;rw [g6,hsc];intro m us hm hf;rw [List.length_append,List.length_singleton] at hm;by_cases hml:m≤(B6 w.1.1.1.1).length
    ·rw [List.take_append_of_le_length hml] at hf;exact hc.cnt m us hml hf
    ·have hn:=hc.cnt _ _ (Nat.le_refl _) (by rw [List.take_length];exact hup);rw [List.take_of_length_le (by rw [List.length_append,List.length_singleton];omega),A9U,hup] at hf;have hf2:G2 w.1.1.2.2.2 [rc]=some us:=hf;rw [D2y g5] at hf2;injection hf2 with hf2
     rw [← hf2];omega
 ·have e:L7 w j=(false,w):=by unfold L7;rw [if_neg (fun hx=>hj ⟨hx.1,hx.2.1⟩)]
  rw [e];exact hc
theorem E1I{w:A5}(hc:Cap w)(i:Int):Cap (A1Q w i).2:=B95 hc (C5S w i) (by unfold A1Q;split<;>rfl)
theorem D2z{w:A5}(hc:Cap w):Cap (A2X w).2:=B95 hc (by unfold A2X;split<;>rfl) (by unfold A2X;split<;>rfl)
theorem D30{k:Nat}{w:A5}(h:WIw k w)(hc:Cap w)(j:Int):Cap (U6 w j).2:=by
 have hf:=D2q (C21 h) j;have hd:(U6 w j).2.1.1.1.1=w.1.1.1.1:=by
  unfold U6
  repeat' split
  all_goals rfl
 refine D5f hc hf.len (fun c hm=>?_) hd;obtain ⟨i,hi,rfl⟩:=List.getElem_of_mem hm;have hiw:i<w.2.1.length:=by have:=hf.len;omega
 exact ⟨_,List.getElem_mem hiw,(hf.same i _ _ (List.getElem?_eq_getElem hiw) (List.getElem?_eq_getElem hi)).2⟩
theorem C23(c:A6):(G5 c).2.1=c.2.1:=by
 unfold G5;split<;>rfl
theorem E2p{w:A5}(hc:Cap w)(j:Int):Cap (D2j w j).2:=by
 unfold D2j;split
 ·rename_i hj;obtain ⟨q,rfl⟩:∃ q:Nat,j=(q:Int):=⟨j.toNat,by omega⟩;have hq:q<w.2.1.length:=by omega
  refine D5f hc List.length_set (fun c hm=>?_) rfl;rcases D7Z hm with hm | rfl
  ·exact ⟨c,hm,rfl⟩
  ·rw [C3 (k:=B3) (xs:=w.2.1) hq];exact ⟨_,List.getElem_mem hq,C23 _⟩
 ·exact hc
theorem D94{k:Nat}(hk:k≤9999){w:A5}(h:WIw k w)(hc:Cap w)(ke:List Bool):Cap (B2c w ke).2:=by
 obtain ⟨c,uc,h⟩:=h;have hep:=h.ep;obtain ⟨m,us,g1,g2,g3,g4,g5,g6,g7⟩:=C9A h.dur ke (by omega);have hop:E1 (B6Q w.1.1.1 ke)=some (V0 (R6 w.1.1.1.1 w.1.1.1.2 ke) us,true,()):=C0i g7;have e:B2c w ke=(true,((V0 (R6 w.1.1.1.1 w.1.1.1.2 ke) us,[]),(w.2.1.map G5,(List.replicate w.2.1.length false,([],([],w.2.2.2.2.2)))))):=by
  unfold B2c;rw [hop]
 rw [e];refine ⟨by show (w.2.1.map G5).length≤3;rw [List.length_map];exact hc.n3,fun x hx=>?_,?_,?_⟩
 ·have hx:x∈w.2.1.map G5:=hx;obtain ⟨a,ha,rfl⟩:=List.mem_map.1 hx;rw [C23];exact hc.f60 a ha
 ·refine hc.d40.elim (fun e=>.inl ?_) fun e=>.inr ?_
  ·show w.2.1.map G5 = [];rw [e];rfl
  ·show (R6 w.1.1.1.1 w.1.1.1.2 ke).length=40;rw [B0q];exact e
 ·show ∀ n us',n≤(B6 (R6 w.1.1.1.1 w.1.1.1.2 ke)).length→G2 [] ((B6 (R6 w.1.1.1.1 w.1.1.1.2 ke)).take n)=some us'→n≤A1R us';rw [g3];intro n us' hn hf;rw [List.length_take] at hn;rw [List.take_take,Nat.min_eq_left (by omega)] at hf;exact hc.cnt n us' (by omega) hf
theorem E3t{k:Nat}(hk:k≤9999){w:A5}(h:WIw k w)(hc:Cap w)(e:A7v):Cap (evF w e).2:=by
 unfold evF
 repeat' split
 ·exact E1I hc _
 ·exact C9N h hc _
 ·exact D2z hc
 ·exact D30 h hc _
 ·exact E2p hc _
 ·exact D94 hk h hc _
 ·exact hc
def C0t(w:A5)(i:Nat)(r:L8):Prop:=((i:Int),r)∈w.1.2∨((i:Int),r)∈w.2.2.2.2.1
def Bd(w:A5)(i n:Nat):Prop:=∀ c,w.2.1[i]? = some c→(∀ r,C0t w i r→mu (hear c r) w.1.1.2.2.2≤n)∧((∀ r,¬ C0t w i r)→mu c w.1.1.2.2.2≤n)
theorem E3C{v w:A5}{i n:Nat}(h:Bd w i n)(h1:v.1.1.2.2.2=w.1.1.2.2.2)(h2:v.2.1=w.2.1)(h3:∀ r,C0t v i r↔C0t w i r):Bd v i n:=by
 intro c hc;rw [h2] at hc;obtain ⟨a,b⟩:=h c hc;rw [h1];exact ⟨fun r hr=>a r ((h3 r).1 hr),fun hn=>b fun r hr=>hn r ((h3 r).2 hr)⟩
theorem D95(c:A6)(r:L8):(hear c r).1=c.1:=by
 unfold hear far
 repeat' split
 all_goals rfl
theorem E1J{k:Nat}{w:A5}(h:WIw k w){i0:Nat}{cl:A6}{st':A7}{resp:L8}(hcl:w.2.1[i0]? = some cl){q:Nat}(hq:q<w.2.2.2.1.length)(hw:(w.2.2.2.1[q]).1=(i0:Int))(hlv:D7f cl w.1.1 st' resp)(i m:Nat) :
  (Bd w i m→Bd ((st',w.1.2 ++ [((i0:Int),resp)]),(w.2.1,(w.2.2.1,(rm w.2.2.2.1 q,w.2.2.2.2)))) i m)∧(i=i0→Bd w i (m+1)→Bd ((st',w.1.2 ++ [((i0:Int),resp)]),(w.2.1,(w.2.2.1,(rm w.2.2.2.1 q,w.2.2.2.2)))) i m):=by
 obtain ⟨c,uc,h⟩:=h;have pend:∀ r,C0t ((st',w.1.2 ++ [((i0:Int),resp)]),(w.2.1,(w.2.2.1,(rm w.2.2.2.1 q,w.2.2.2.2)))) i r↔C0t w i r∨(((i:Int),r):C4)=((i0:Int),resp):=fun r=>by
  show ((i:Int),r)∈w.1.2 ++ [((i0:Int),resp)]∨((i:Int),r)∈w.2.2.2.2.1↔_;unfold C0t;rw [List.mem_append,List.mem_singleton];constructor
  ·rintro ((h | h) | h)
   ·exact .inl (.inl h)
   ·exact .inr h
   ·exact .inl (.inr h)
  ·rintro ((h | h) | h)
   ·exact .inl (.inl h)
   ·exact .inr h
   ·exact .inl (.inr h)
 have mine:i=i0→Bd w i (m+1)→Bd ((st',w.1.2 ++ [((i0:Int),resp)]),(w.2.1,(w.2.2.1,(rm w.2.2.2.1 q,w.2.2.2.2)))) i m:=fun e hb=>by
  subst e;obtain ⟨b,hbu⟩:∃ b,w.2.2.1[i]? = some b:=⟨_,List.getElem?_eq_getElem (by rw [h.lb];exact A5l hcl)⟩;have hcn:=h.cnt i b hbu;have hpos:0<cW i w.2.2.2.1:=List.countP_pos_iff.2 ⟨_,List.getElem_mem hq,decide_eq_true hw⟩;have hz:cH i w.1.2=0∧cH i w.2.2.2.2.1=0:=by split at hcn<;>omega
  have none':∀ r,¬ C0t w i r:=fun r hr=>by
   rcases hr with hr | hr
   ·exact A3i hz.1 hr (decide_eq_true rfl)
   ·exact A3i hz.2 hr (decide_eq_true rfl)
  intro x hx;have hx:w.2.1[i]? = some x:=hx;rw [hcl] at hx;injection hx with hx
  subst hx;have h2:=(hb cl hcl).2 none';have h3:=hlv.less;refine ⟨fun r hr=>?_,fun hn=>?_⟩
  ·rcases (pend r).1 hr with hr | hr
   ·exact absurd hr (none' r)
   ·injection hr with _ hr
    subst hr;show mu (hear cl r) st'.2.2.2≤m;omega
  ·exact absurd ((pend resp).2 (.inr rfl)) (hn resp)
 refine ⟨fun hb=>?_,mine⟩;by_cases e:i=i0
 ·refine mine e fun x hx=>?_
  obtain ⟨a,b⟩:=hb x hx;exact ⟨fun r hr=>Nat.le_succ_of_le (a r hr),fun hn=>Nat.le_succ_of_le (b hn)⟩
 ·intro x hx;have hx:w.2.1[i]? = some x:=hx;have hne:x.1≠cl.1:=fun ex=>e (h.dist i i0 x cl hx hcl ex)
  obtain ⟨a,b⟩:=hb x hx;have hp:∀ r,C0t ((st',w.1.2 ++ [((i0:Int),resp)]),(w.2.1,(w.2.2.1,(rm w.2.2.2.1 q,w.2.2.2.2)))) i r→C0t w i r:=fun r hr=>by
   rcases (pend r).1 hr with hr | hr
   ·exact hr
   ·injection hr with hr _
    exact absurd (Int.ofNat.inj hr) e
  refine ⟨fun r hr=>?_,fun hn=>?_⟩
  ·show mu (hear x r) st'.2.2.2≤m;rw [D2w (us:=w.1.1.2.2.2) (us':=st'.2.2.2) (c:=hear x r) (by rw [D95];exact hlv.oth _ hne)];exact a r (hp r hr)
  ·show mu x st'.2.2.2≤m;rw [D2w (us:=w.1.1.2.2.2) (us':=st'.2.2.2) (c:=x) (hlv.oth _ hne)];exact b fun r hr=>hn r ((pend r).2 (.inl hr))
theorem C9O{k:Nat}:∀ n {w:A5},WIw k w→Cap w→w.2.2.2.1.length=n→
  (Q1 n w).2.2.2.1 = []∧Cap (Q1 n w)∧∀ i m,(Bd w i m→Bd (Q1 n w) i m)∧((∃ a∈w.2.2.2.1,a.1=(i:Int))→Bd w i (m+1)→Bd (Q1 n w) i m)
 | 0,w,h,hc,hl=>by
  have e:=List.eq_nil_of_length_eq_zero hl;refine ⟨e,hc,fun i m=>⟨fun hb=>hb,fun ⟨a,ha,_⟩=>?_⟩⟩;rw [e] at ha;cases ha
 | n+1,w,h,hc,hl=>by
  have hq:0<w.2.2.2.1.length:=by omega
  obtain ⟨i0,cl,st',resp,hcl,hwho,hlv,hG,e⟩:=C5b h hc hq;have e':L7 w 0=_:=e;have hv:=C5X h 0 (by omega);have hcv:=C9N h hc 0;have hbs:=E1J h hcl hq hwho hlv;unfold Q1;rw [e'] at hv hcv ⊢;simp only [cond_true];have hrl:=B2Y hq;obtain ⟨k1,k2,k3⟩:=C9O n hv hcv (show (rm w.2.2.2.1 0).length=n by omega);refine ⟨k1,k2,fun i m=>⟨fun hb=>(k3 i m).1 ((hbs i m).1 hb),fun ⟨a,ha,hai⟩ hb=>?_⟩⟩;by_cases ei:i=i0
  ·exact (k3 i m).1 ((hbs i m).2 ei hb)
  ·refine (k3 i m).2 ⟨a,?_,hai⟩ ((hbs i (m+1)).1 hb);show a∈rm w.2.2.2.1 0;obtain ⟨j,hj,rfl⟩:=List.getElem_of_mem ha;cases j with
   | zero=>exact absurd (Int.ofNat.inj (hai.symm.trans hwho)) ei
   | succ j=>
    unfold rm;rw [List.take_zero,List.nil_append];exact List.mem_iff_getElem.2 ⟨j,by rw [List.length_drop];omega,by rw [List.getElem_drop];congr 1;omega⟩
theorem C9P{k:Nat}{w:A5}(h:WIw k w)(hq:0<w.2.2.2.2.1.length):∃ (i:Nat) (cl:A6) (r:L8) (best':List Int),w.2.1[i]? = some cl∧w.2.2.2.2.1[0]=((i:Int),r)∧(∀ r',((i:Int),r') ∉ w.1.2)∧(∀ r',((i:Int),r') ∉ rm w.2.2.2.2.1 0)∧
  U6 w 0=(true,(w.1,(w.2.1.set i (hear cl r),(w.2.2.1.set i false,(w.2.2.2.1,(rm w.2.2.2.2.1 0,best')))))):=by
 obtain ⟨c,uc,h⟩:=h;obtain ⟨i,cl,hcl,hai,hfit,htold⟩:=h.tell _ (List.getElem_mem hq);have hg:=h.cl i cl hcl;have hic:=A5l hcl;obtain ⟨b,hb⟩:∃ b,w.2.2.1[i]? = some b:=⟨_,List.getElem?_eq_getElem (by rw [h.lb];exact hic)⟩;have hcn:=h.cnt i b hb;have h0:w.2.2.2.2.1[0]? = some w.2.2.2.2.1[0]:=List.getElem?_eq_getElem hq;have hct:cH i w.2.2.2.2.1=cH i (rm w.2.2.2.2.1 0)+1:=by
  have:=C5K (fun x:C4=>decide (x.1=(i:Int))) h0;rw [if_pos (decide_eq_true hai)] at this;exact this
 have hbt:b=true:=by
  cases b with
  | true=>rfl
  | false=>simp only [Bool.false_eq_true,if_false] at hcn;omega
 subst hbt;simp only [if_true] at hcn;have hz:cH i w.1.2=0∧cH i (rm w.2.2.2.2.1 0)=0:=by omega
 obtain ⟨hearG,he1,he2,he5,hov⟩:=C9F hg hfit;have hhr:X1 cl (w.2.2.2.2.1[0]).2=hear cl (w.2.2.2.2.1[0]).2:=by
  unfold X1;rw [hg.ok,C43 hg hfit,hov];rfl
 refine ⟨i,cl,(w.2.2.2.2.1[0]).2,w.2.2.2.2.2.set i (D8v (rd (.int .i64) w.2.2.2.2.2 (i:Int)) (w.2.2.2.2.1[0]).2.2),hcl,by rw [← hai],fun r' hr'=>A3i hz.1 hr' (decide_eq_true rfl),fun r' hr'=>A3i hz.2 hr' (decide_eq_true rfl),?_⟩;unfold U6;have hrd:rd B2 w.2.2.2.2.1 0=w.2.2.2.2.1[0]:=C3 (k:=B2) (xs:=w.2.2.2.2.1) (i:=0) hq;rw [if_pos ⟨by omega,by omega⟩,hrd,hai,U5 .bool hb,if_pos rfl,U5 B3 hcl,hhr,Int.toNat_natCast];rfl
theorem E2q{k:Nat}{w:A5}(h:WIw k w)(hq:0<w.2.2.2.2.1.length)(i m:Nat)(hb:Bd w i m):Bd (U6 w 0).2 i m:=by
 obtain ⟨i0,cl,r,best',hcl,h0,hn1,hn2,e⟩:=C9P h hq;rw [e];intro x hx;have hx:(w.2.1.set i0 (hear cl r))[i]? = some x:=hx;rcases A9W hx with ⟨rfl,rfl⟩ | ⟨hne,hx⟩
 ·obtain ⟨a,b⟩:=hb cl hcl;refine ⟨fun r' hr'=>?_,fun _=>a r (.inr ?_)⟩
  ·rcases hr' with hr' | hr'
   ·exact absurd hr' (hn1 r')
   ·exact absurd hr' (hn2 r')
  ·rw [← h0];exact List.getElem_mem hq
 ·obtain ⟨a,b⟩:=hb x hx;refine ⟨fun r' hr'=>a r' ?_,fun hn=>b fun r' hr'=>hn r' ?_⟩
  ·rcases hr' with hr' | hr'
   ·exact .inl hr'
   ·exact .inr (C0m hr')
  ·rcases hr' with hr' | hr'
   ·exact .inl hr'
   ·refine .inr ?_;show ((i:Int),r')∈rm w.2.2.2.2.1 0;obtain ⟨j,hj,ej⟩:=List.getElem_of_mem hr';cases j with
    | zero=>
     rw [h0] at ej;injection ej with ej _
     exact absurd (Int.ofNat.inj ej).symm hne
    | succ j=>
     unfold rm;rw [List.take_zero,List.nil_append];exact List.mem_iff_getElem.2 ⟨j,by rw [List.length_drop];omega,by rw [List.getElem_drop,← ej];congr 1;omega⟩
theorem D31{k:Nat}:∀ n {w:A5},WIw k w→Cap w→w.2.2.2.2.1.length=n→
  (A8S n w).2.2.2.2.1 = []∧(A8S n w).1.2=w.1.2∧Cap (A8S n w)∧∀ i m,Bd w i m→Bd (A8S n w) i m
 | 0,w,h,hc,hl=>⟨List.eq_nil_of_length_eq_zero hl,rfl,hc,fun i m hb=>hb⟩
 | n+1,w,h,hc,hl=>by
  have hq:0<w.2.2.2.2.1.length:=by omega
  obtain ⟨i0,cl,r,best',hcl,h0,hn1,hn2,e⟩:=C9P h hq;have hv:=D0T h 0 (by omega);have hcv:=D30 h hc 0;have hbt:=E2q h hq;unfold A8S;rw [e] at hv hcv hbt ⊢;simp only [cond_true];have hrl:=B2Y hq;obtain ⟨k1,k2,k3,k4⟩:=D31 n hv hcv (show (rm w.2.2.2.2.1 0).length=n by omega);exact ⟨k1,k2,k3,fun i m hb=>k4 i m (hbt i m hb)⟩
theorem C9Q(w:A5)(i:Int):(A1Q w i).2.1=w.1∧(A1Q w i).2.2.2.2.2.1=w.2.2.2.2.1:=by
 unfold A1Q;split<;>exact ⟨rfl,rfl⟩
theorem B7v(w:A5):∀ n,(A5B n w).1=w.1∧(A5B n w).2.2.2.2.1=w.2.2.2.2.1
 | 0=>⟨rfl,rfl⟩
 | n+1=>⟨(C9Q _ _).1.trans (B7v w n).1,(C9Q _ _).2.trans (B7v w n).2⟩
theorem D32{c:A6}(hc:ClG c)(h5:c.2.2.1≠5):(G6 c).2.2.1=true:=by
 obtain ⟨_,_,h1,h2,_⟩:=U4 hc;unfold G6;rw [hc.ok];simp only [Bool.true_eq_false,if_false];split
 ·rfl
 ·split
  ·rfl
  ·split
   ·rfl
   ·split
    ·rfl
    ·omega
theorem C5c{k:Nat}{w:A5}(h:WIw k w):∀ n,n≤1000→∀ (i:Nat) (c:A6),i<n→w.2.1[i]? = some c→c.2.2.1≠5→(A5B n w).2.2.1[i]? = some true
 | 0,_,i,c,hi,_,_=>by omega
 | n+1,hn,i,c,hi,hcl,h5=>by
  have hv:=C5Y h n (by omega);have hvc:=C0q w n;have ih:=C5c h n (by omega) i c;show (A1Q (A5B n w) (n:Int)).2.2.2.1[i]? = some true;generalize A5B n w=v at hv hvc ih;have hfew:=D5e hv;obtain ⟨c1,uc,hW⟩:=hv;have hlb:=hW.lb;have n6:=hW.n6;have hcl':=hcl;rw [← hvc] at hcl;have hil:=A5l hcl;unfold A1Q;by_cases hin:i=n
  ·subst hin;obtain ⟨b,hb⟩:∃ b,v.2.2.1[i]? = some b:=⟨_,List.getElem?_eq_getElem (by omega)⟩;cases b with
   | true=>
    rw [if_neg (fun hx=>by have h3:=hx.2.2.1;rw [U5 .bool hb] at h3;cases h3)];exact hb
   | false=>
    rw [if_pos ⟨by omega,by omega,by rw [U5 .bool hb],by omega,by rw [U5 B3 hcl];exact D32 (hW.cl i c hcl) h5⟩];show (v.2.2.1.set ((i:Int)).toNat true)[i]? = some true;rw [Int.toNat_natCast,List.getElem?_set_self (by omega)]
  ·have ih:=ih (by omega) hcl' h5;split
   ·show (v.2.2.1.set ((n:Int)).toNat true)[i]? = some true;rw [Int.toNat_natCast,List.getElem?_set_ne (fun e=>hin e.symm)];exact ih
   ·exact ih
theorem D33{k:Nat}{w:A5}(h:WIw k w)(hc:Cap w):WIw k (Y0 w)∧Cap (Y0 w)∧(Y0 w).1.2 = []∧(Y0 w).2.2.2.2.1 = []∧
  (∀ (i:Nat) (c:A6),(Y0 w).2.1[i]? = some c→c.2.2.1≠5→∃ a∈(Y0 w).2.2.2.1,a.1=(i:Int))∧
  ∀ i m,(Bd w i m→Bd (Y0 w) i m)∧((∃ a∈w.2.2.2.1,a.1=(i:Int))→Bd w i (m+1)→Bd (Y0 w) i m):=by
 obtain ⟨s1,s2,s3⟩:=C9O _ h hc rfl;have w1:=C0s w.2.2.2.1.length h;have w2:=B7s h;have w3:=C5Z h;have w4:=C45 h;have hfew:=D5e w1;have n6:=(B8z w1).1;have hsy:A2X (Q1 w.2.2.2.1.length w)=(true,(((((Q1 w.2.2.2.1.length w).1.1.1.1,(Q1 w.2.2.2.1.length w).1.1.1.1),(Q1 w.2.2.2.1.length w).1.1.2),[]),((Q1 w.2.2.2.1.length w).2.1,((Q1 w.2.2.2.1.length w).2.2.1,((Q1 w.2.2.2.1.length w).2.2.2.1,((Q1 w.2.2.2.1.length w).2.2.2.2.1++(Q1 w.2.2.2.1.length w).1.2,(Q1 w.2.2.2.1.length w).2.2.2.2.2)))))):=by
  unfold A2X;rw [if_neg (by omega)]
 have hsv:A6F w=(A2X (Q1 w.2.2.2.1.length w)).2:=rfl;have b2:∀ i m,Bd (Q1 w.2.2.2.1.length w) i m→Bd (A6F w) i m:=fun i m hb=>by
  rw [hsv,hsy];refine E3C hb rfl rfl fun r=>?_
  show ((i:Int),r)∈([]:List C4)∨((i:Int),r)∈_++_↔_;unfold C0t;rw [List.mem_append];constructor
  ·rintro (h | h | h)
   ·cases h
   ·exact .inr h
   ·exact .inl h
  ·rintro (h | h)
   ·exact .inr (.inr h)
   ·exact .inr (.inl h)
 have c2:Cap (A6F w):=D2z s2;have he2:(A6F w).1.2 = []:=by rw [hsv,hsy]
 obtain ⟨t1,t2,t3,t4⟩:=D31 _ w2 c2 rfl;have t2':(A6f w).1.2 = []:=t2.trans he2;have t1':(A6f w).2.2.2.2.1 = []:=t1;have t3':Cap (A6f w):=t3;have t4':∀ i m,Bd (A6F w) i m→Bd (A6f w) i m:=t4;have n6':=(B8z w3).1;have sb:=C5c w3 (A6f w).2.1.length (by omega);obtain ⟨k1,k2⟩:=B7v (A6f w) (A6f w).2.1.length;have k3:=C0q (A6f w) (A6f w).2.1.length;have hh:Y0 w=A5B (A6f w).2.1.length (A6f w):=rfl;rw [← hh] at sb k1 k2 k3;have hH:(Y0 w).1.2 = []:=by rw [k1];exact t2'
 have hT:(Y0 w).2.2.2.2.1 = []:=by rw [k2];exact t1'
 have hbd:∀ i m,Bd (A6f w) i m→Bd (Y0 w) i m:=fun i m hb=>E3C hb (by rw [k1]) k3 fun r=>by unfold C0t;rw [k1,k2]
 refine ⟨w4,B95 t3' k3 (by rw [k1]),hH,hT,fun i c hcl h5=>?_,fun i m=>⟨fun hb=>hbd i m (t4' i m (b2 i m ((s3 i m).1 hb))),fun ha hb=>hbd i m (t4' i m (b2 i m ((s3 i m).2 ha hb)))⟩⟩;rw [k3] at hcl;have hb:=sb i c (A5l hcl) hcl h5;obtain ⟨c0,uc,hW⟩:=w4;have hcn:=hW.cnt i true hb;rw [hH,hT] at hcn;simp only [if_true] at hcn;have z:cH i []=0:=rfl;rw [z] at hcn;have hpos:0<cW i (Y0 w).2.2.2.1:=by omega
 obtain ⟨a,ha,hp⟩:=List.countP_pos_iff.1 hpos;exact ⟨a,ha,of_decide_eq_true hp⟩
structure Ready (k n:Nat) (w:A5):Prop where
 wi:WIw k w
 cap:Cap w
 he:w.1.2 = []
 te:w.2.2.2.2.1 = []
 ak:∀ (i:Nat) (c:A6),w.2.1[i]? = some c→c.2.2.1≠5→∃ a∈w.2.2.2.1,a.1=(i:Int)
 bd:∀ i,Bd w i n
theorem B96{k n:Nat}{w:A5}(h:Ready k n w)(i:Nat)(r:L8):¬ C0t w i r:=fun hr=>by
 rcases hr with hr | hr
 ·rw [h.he] at hr;cases hr
 ·rw [h.te] at hr;cases hr
theorem D34{k:Nat}{w:A5}(h:WIw k w)(hc:Cap w):Ready k 6 (Y0 w):=by
 obtain ⟨h1,h2,h3,h4,h5,_⟩:=D33 h hc;refine ⟨h1,h2,h3,h4,h5,fun i c hcl=>⟨fun r hr=>?_,fun _=>?_⟩⟩
 ·rcases hr with hr | hr
  ·rw [h3] at hr;cases hr
  ·rw [h4] at hr;cases hr
 ·exact E3s (h2.f60 c (List.mem_of_getElem? hcl))
theorem D5g{k n:Nat}{w:A5}(h:Ready k n w):Ready k (n-1) (Y0 w):=by
 obtain ⟨h1,h2,h3,h4,h5,h6⟩:=D33 h.wi h.cap;refine ⟨h1,h2,h3,h4,h5,fun i=>?_⟩;by_cases hi:∃ c,w.2.1[i]? = some c∧c.2.2.1≠5
 ·obtain ⟨c,hcl,hne⟩:=hi;cases n with
  | zero=>exact (h6 i 0).1 (h.bd i)
  | succ n=>exact (h6 i n).2 (h.ak i c hcl hne) (h.bd i)
 ·refine (h6 i (n-1)).1 fun c hcl=>⟨fun r hr=>absurd hr (B96 h i r),fun _=>?_⟩
  have e5:c.2.2.1=5:=Decidable.byContradiction fun hne=>hi ⟨c,hcl,hne⟩
  have:mu c w.1.1.2.2.2=0:=by unfold mu muN;rw [if_pos e5]
  omega
noncomputable def D7g:Nat→A5→A5
 | 0,w=>w
 | n+1,w=>Y0 (D7g n w)
theorem B6S(w:A5):∀ n,A0F n w=D7g (2*n) w
 | 0=>rfl
 | n+1=>by
  show Y0 (Y0 (A0F n w))=Y0 (Y0 (D7g (2*n) w));rw [B6S w n]
theorem D7h{k:Nat}{w:A5}(h:WIw k w)(hc:Cap w):∀ n,Ready k (6-n) (D7g (n+1) w)
 | 0=>D34 h hc
 | n+1=>by
  have h1:=D5g (D7h h hc n);rw [show 6-n-1=6-(n+1) by omega] at h1;exact h1
theorem D5h{k:Nat}{w:A5}(h:Ready k 0 w):∀ (i:Nat) (c:A6),w.2.1[i]? = some c→c.2.2.1=5:=fun i c hcl=>
 E1D (Nat.le_zero.1 ((h.bd i c hcl).2 (B96 h i)))
theorem D96(c:H7)(h:Cur c)(j:Int)(hj:0≤j∧j≤3):∃ y c',B8 (S2 A00 R5 A5T) (j,c.1,c.2.1,c.2.2,[],())=some (c'.1,c'.2.1,c'.2.2,y,())∧Cur c'∧D8r 0 y∧∀ a∈y,a.2.1.length≤60:=by
 obtain ⟨z,e,hz⟩:=Y4 (S2 A00 R5 A5T) (fun l=>l.1.toNat)
  (fun l=>0≤l.1∧l.1≤3∧Cur (l.2.1,(l.2.2.1,l.2.2.2.1))∧D8r l.1 l.2.2.2.2.1∧∀ a∈l.2.2.2.2.1,a.2.1.length≤60) (fun z=>Cur (z.1,(z.2.1,z.2.2.1))∧D8r 0 z.2.2.2.1∧∀ a∈z.2.2.2.1,a.2.1.length≤60) (fun l hl=>by
   obtain ⟨g0,g1,g2,g3,g4⟩:=hl;simp only [S2];by_cases hi:l.1>0
   ·obtain ⟨m,hm⟩:∃ m:Nat,l.1=(m:Int)+1:=⟨(l.1-1).toNat,by omega⟩;have w1:IntKind.i64.wrap (l.1-1)=(m:Int):=by rw [w64 (by omega) (by omega)];omega
    obtain ⟨n,c1,q1,h1,hn⟩:=D27 _ [0,5,24,60,50] g2 (by simp);have hn2:0≤n∧n≤60:=by
     simp only [List.mem_cons,List.not_mem_nil,or_false] at hn;omega
    obtain ⟨dat,c2,q2,h2,hl2,hb2⟩:=D5E c1 n h1 (by omega);have hm3:m<3:=by omega
    have hmabc:m<abc.length:=hm3;have hrd:rd .str [(⟨#[97]⟩:ByteArray),(⟨#[98]⟩:ByteArray),(⟨#[99]⟩:ByteArray)] (m:Int)=abc[m]:=A5f (xs:=abc) hmabc;obtain ⟨hid,hsz⟩:=E3q _ (List.getElem_mem hmabc);have hok:G7 (abc[m],dat,1,0)=true:=by
     simp only [G7,Bool.and_eq_true,decide_eq_true_eq];refine ⟨⟨⟨hid,by omega⟩,by omega⟩,by omega⟩
    have hlen:=g3.n;have q3:=C5M abc[m] dat (by simp only [maxLen];omega) (by omega);simp only [C0n,hok,if_true] at q3;rw [A0 hi,w1,A0 (show (0:Int)≤(m:Int) by omega),A0 (by simp;omega),q1];simp only [cond_true,bO,q2,hrd,q3];rw [A0 (by simp;omega),A0 (by simp;omega)];refine .inl ⟨_,rfl,⟨by simp only;omega,by simp only;omega,h2,?_,fun a ha=>?_⟩,by simp only;omega⟩
    ·refine E12 (by rw [← hm];exact g3) ⟨hok,by show (1:Int)≠6;omega,hb2,fun h=>by cases h⟩ rfl (List.getElem?_eq_getElem hmabc)
    ·rcases List.mem_append.1 ha with ha | ha
     ·exact g4 a ha
     ·rw [List.mem_singleton.1 ha];show dat.length≤60;omega
   ·rw [A3 hi];have e0:l.1=0:=by omega
    rw [e0] at g3;exact .inr ⟨_,rfl,g2,g3,g4⟩) (j,c.1,c.2.1,c.2.2,[],()) ⟨hj.1,hj.2,h,⟨by simp;omega,fun a ha=>by (cases ha),fun p q a b ha=>by (simp at ha)⟩,fun a ha=>by (cases ha)⟩
 exact ⟨z.2.2.2.1,(z.1,(z.2.1,z.2.2.1)),e,hz.1,hz.2⟩
theorem D7i{n:Int}{cls:List A6}(h3:cls.length≤3)(h60:∀ a∈cls,a.2.1.length≤60)(hd:cls = []∨(D6 n).1.length=40)(hn:n≤200):Cap (((D6 n,(0,(0,[]))),[]),(cls,(List.replicate cls.length false,([],([],List.replicate cls.length (-1)))))):=by
 obtain ⟨⟨c,hd'⟩,hep,_⟩:=B6R n hn;have hsc:(B6 (D6 n).1).length=0:=by
  have h1:(0:Int)=((B6 (D6 n).1).length:Int):=by
   rcases hd'.g with ⟨_,_,_,h4,_⟩;exact h4
  omega
 exact ⟨h3,h60,hd,fun m us hm _=>by
  have hm:m≤(B6 (D6 n).1).length:=hm;omega⟩
theorem D5i(c:H7)(n:Int)(hc:Cur c)(hn:0<n∧n≤1000):∃ w c',P0 c n=some (w,c',())∧(WIw 1000 w∧Cap w)∧Cur c':=by
 obtain ⟨m,c1,q1,h1,hm⟩:=D27 c [1,2,3] hc (by simp);have hm2:0≤m∧m≤3:=by
  simp only [List.mem_cons,List.not_mem_nil,or_false] at hm;omega
 obtain ⟨cls,c2,q2,h2,hcls,h60⟩:=D96 c1 h1 m hm2;have hcn:=hcls.n;obtain ⟨w,q3,hw⟩:=C7f 40 cls (by omega) (fun x hx=>by
  obtain ⟨g,_⟩:=hcls.ok x hx;have:=(U4 g).2.1;exact ⟨A9X g,by omega⟩)
 have hw0:WIw 0 w∧Cap w:=by
  rcases hw with rfl | rfl
  ·exact ⟨E13 (n:=40) (by omega) hcls,D7i (n:=40) (by omega) h60 (.inr (by simp [D6])) (by omega)⟩
  ·have z1:WIw 0 D5Z:=by
    exact E13 (n:=-1) (by omega) (cls:= []) ⟨by simp,fun a ha=>by (cases ha),fun p q a b ha=>by (simp at ha)⟩
   have z2:Cap D5Z:=by
    exact D7i (n:=-1) (cls:= []) (by simp) (fun a ha=>by (cases ha)) (.inl rfl) (by omega)
   exact ⟨z1,z2⟩
 obtain ⟨k,c3,q4,h3,k0,k1⟩:=A8O c2 n h2 (by omega);have q4':L9 (c2.1,(c2.2.1,c2.2.2)) n=_:=q4;simp only [P0,A0u,q1,q2,q3,q4',bO];obtain ⟨z,e,hz⟩:=Y4 (A07 A0Y K3) (fun l=>l.1.toNat)
  (fun l=>∃ j:Nat,l.1≤1000-(j:Int)∧j≤1000∧(WIw j ((((l.2.1,l.2.2.1),(l.2.2.2.1,(l.2.2.2.2.1,l.2.2.2.2.2.1))),l.2.2.2.2.2.2.2.2.2.1),(l.2.2.2.2.2.2.2.2.2.2.1,(l.2.2.2.2.2.2.2.2.2.2.2.1,(l.2.2.2.2.2.2.2.2.2.2.2.2.1,(l.2.2.2.2.2.2.2.2.2.2.2.2.2.1,l.2.2.2.2.2.2.2.2.2.2.2.2.2.2.1)))))∧Cap ((((l.2.1,l.2.2.1),(l.2.2.2.1,(l.2.2.2.2.1,l.2.2.2.2.2.1))),l.2.2.2.2.2.2.2.2.2.1),(l.2.2.2.2.2.2.2.2.2.2.1,(l.2.2.2.2.2.2.2.2.2.2.2.1,(l.2.2.2.2.2.2.2.2.2.2.2.2.1,(l.2.2.2.2.2.2.2.2.2.2.2.2.2.1,l.2.2.2.2.2.2.2.2.2.2.2.2.2.2.1))))))∧Cur (l.2.2.2.2.2.2.1,(l.2.2.2.2.2.2.2.1,l.2.2.2.2.2.2.2.2.1))) (fun z=>(WIw 1000 z.1∧Cap z.1)∧Cur z.2.1) (fun l hl=>by
   obtain ⟨j,g0,gj,⟨g1,gc⟩,g2⟩:=hl;obtain ⟨w1,w2,w3⟩:=B8z g1;simp only [A07];by_cases hi:l.1>0
   ·obtain ⟨ev,c',e,hc',hev⟩:=D2i _ _ g2 (Nat.le_trans w1 (by omega)) (Nat.le_trans w2 (by omega)) (Nat.le_trans w3 (by omega));have gev:=E3t (k:=j) (by omega) g1 gc ev;have q':=(E4G (C21 g1) ev).2;obtain ⟨b,w',q,hw'⟩:=E3p j (by omega) _ g1 ev hev;rw [B93 (w:=w') q q'] at gev;rw [A0 hi,e];simp only [cond_true,bO];rw [q];simp only [bO];rw [w64 (by omega) (by omega)];exact .inl ⟨_,rfl,⟨j+1,by simp only;omega,by omega,⟨hw',gev⟩,hc'⟩,by simp only;omega⟩
   ·rw [A3 hi];exact .inr ⟨_,rfl,⟨E4F g1 gj,gc⟩,g2⟩) (k,w.1.1.1.1,w.1.1.1.2,w.1.1.2.1,w.1.1.2.2.1,w.1.1.2.2.2,c3.1,c3.2.1,c3.2.2,w.1.2,w.2.1,w.2.2.1,w.2.2.2.1,w.2.2.2.2.1,w.2.2.2.2.2,()) ⟨0,by simp only;omega,by omega,hw0,h3⟩
 exact ⟨z.1,z.2.1,e,hz⟩
theorem D35(a:List Int)(h:a.length≤1048576):∃ w,U3 a=some (w,())∧WIw 1000 w∧Cap w:=by
 obtain ⟨c,q,hc⟩:=E0p a h;obtain ⟨s,qs,hs⟩:=size_le a h 100 (by omega);obtain ⟨w,c',e,hw,_⟩:=D5i c (IntKind.i64.wrap (20+s)) hc (by rw [w64 (by omega) (by omega)];omega);simp only [U3,A2b,q,qs,e,bO];exact ⟨w,rfl,hw⟩
theorem D97{k:Nat}{w:A5}(h:WIw k w)(hd:∀ (i:Nat) (c:A6),w.2.1[i]? = some c→c.2.2.1=5):B2z w.1.1 w.2.1=0:=by
 obtain ⟨c0,uc,h⟩:=h;have hU:=B4X h.dur.g;have hone:∀ c∈w.2.1,lk w.1.1 c=0:=fun c hc=>by
  obtain ⟨i,hi,rfl⟩:=List.getElem_of_mem hc;have hcl:w.2.1[i]? = some w.2.1[i]:=List.getElem?_eq_getElem hi;obtain ⟨u,hu,e,hfin⟩:=h.ends i _ hcl (hd i _ hcl);obtain ⟨v,hv,hlu⟩:=D7V h u hu;obtain ⟨j,a,h1,h2,h3⟩:=h.oku v hv;have hva:v.1=(w.2.1[i]).1:=hlu.id.symm.trans e;have hji:j=i:=h.dist j i a _ h1 hcl (by rw [← h2,hva]);subst hji;rw [hcl] at h1;injection h1 with h1
  subst h1;have hl:=h3.fin (hlu.fin hfin).1;unfold lk;rw [← hva,B8y hU.1 hv];show _-List.length v.2.2.1=0;omega
 have key:∀ l:List A6,(∀ c∈l,lk w.1.1 c=0)→B2z w.1.1 l=0:=fun l=>by
  induction l with
  | nil=>intro _;rfl
  | cons c l ih=>
   intro hl;have h1:=hl c List.mem_cons_self;have h2:=ih fun x hx=>hl x (List.mem_cons_of_mem _ hx)
   unfold B2z at h2 ⊢;rw [List.map_cons,List.sum_cons,h1,h2]
 exact key _ hone
theorem D5j{k:Nat}{w:A5}(h:WIw k w)(hd:∀ (i:Nat) (c:A6),w.2.1[i]? = some c→c.2.2.1=5):A6V w=some (true,()):=by
 have hn:=(B8z h).1;simp only [A6V,B4M];have key:=D3 (A69 w) (fun j=>((j:Int),())) w.2.1.length (true,()) (fun j hj=>?_) ?_
 ·exact key
 ·have h5:=hd j _ (List.getElem?_eq_getElem hj);simp only [A69];rw [A0 (show (j:Int)<(w.2.1.length:Int) by omega),A0 (show (0:Int)≤(j:Int) by omega),C3 (k:=B3) (xs:=w.2.1) hj,A0 h5,w64 (n:=(j:Int)+1) (by omega) (by omega)];rfl
 ·simp only [A69];rw [A3 (by omega)];rfl
theorem exactArrives(a:List Int):B0A a=some (true,()):=by
 simp only [B0A,B09,C3z,D02,bO];by_cases ha:(a.length:Int)>1048576
 ·rw [A0 ha];rfl
 rw [A3 ha];obtain ⟨w,q,hw,hc⟩:=D35 a (by omega);have r1:A5d w 15=some (A0F 15 w,()):=D2t hw 15 (by omega);have hr:Ready 1000 0 (A0F 15 w):=by
  rw [B6S];exact D7h hw hc 29
 have hlen:=(C22 hw 15).len;simp only [cond_false,q,r1,bO];generalize A0F 15 w=v at hr hlen ⊢;have hd:=D5h hr;have k1:=D5j hr.wi hd;have k2:=D91 hr.wi;rw [D97 hr.wi hd] at k2;have k3:=D92 hr.wi;simp only [k1,k2,k3,bO];rw [A0 (show (v.2.1.length:Int)=(w.2.1.length:Int) by omega)];rfl
end Go.Proofs.YtpdcljonclhhpaaGreat.Ev
