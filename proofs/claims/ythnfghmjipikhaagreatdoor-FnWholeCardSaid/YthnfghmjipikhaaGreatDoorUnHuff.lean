/- unHuff: the map of codes is made by hand, all else is evaluated. -/
import Derived.Test.YthnfghmjipikhaaGreatDoorEvD
import Derived.Test.YthnfghmjipikhaaGreatDoorTy
import Derived.Test.YthnfghmjipikhaaGreatDoorProg
set_option linter.unusedVariables false
set_option linter.unusedSimpArgs false
set_option maxRecDepth 100000
namespace Go.Proofs.YthnfghmjipikhaaGreatDoor.Ev
open Tryz
open IntKind (i64 u8 u64 u32)
def cA:Code->Code
 | .seq a _=>a
 | c=>c
def cB:Code->Code
 | .seq _ b=>b
 | c=>c
def cIn:Code->Code
 | .block _ a=>a
 | .loop a=>a
 | c=>c
def B0s:Code->Array Oper
 | .region _ ops _=>ops
 | _=>#[]
noncomputable def uhC:Code:=f265.body.getD .skip
noncomputable def uhL:Code:=cIn (cIn (cB (cA (cB (cB uhC)))))
noncomputable def uhR:Code:=cB (cB (cB uhC))
theorem E0j:uhC=.seq (.region 0 (B0s (cA uhC)) false) (.seq (.region 1 (B0s (cA (cB uhC))) false) (.seq (.seq (.region 2 (B0s (cA (cA (cB (cB uhC))))) false) (.block 0 (.loop uhL))) uhR)):=by kernel_rfl
theorem D6D:uhL=.seq (.region 3 (B0s (cA uhL)) false) (.seq (.cond (.tmp 19) .skip (.exit 0)) (.seq (.block 1 (.seq (.region 4 (B0s (cA (cIn (cA (cB (cB uhL)))))) true) (.region 5 (B0s (cB (cIn (cA (cB (cB uhL)))))) false))) (.region 6 (B0s (cB (cB (cB uhL)))) false))):=by kernel_rfl
theorem E3f:EqD prog 246 2 2:=D7v (f:=t246) (d:=1) (by omega) underlying246 (by kernel_rfl) (by kernel_rfl) (by kernel_rfl) ⟨by decide,rfl,.inl ⟨underlying3,⟨by decide,rfl,.inl ⟨underlying3,rfl⟩⟩⟩⟩
theorem uh_ty:MapTy prog 293 246 3:=⟨by kernel_rfl,underlying3,⟨t3,by kernel_rfl,by kernel_rfl⟩,⟨2,by omega,E3f⟩,⟨_,_,underlying246,underlying3,underlying3,rfl,rfl⟩⟩
def A6u(ls:List Loc)(s:St):St:=ls.map fun l=>(l,s.get l)
theorem B6T{ls:List Loc}{s:St}{l:Loc}{lv:LV}(h:(A6u ls s).get l=some lv):s.get l=some lv:=by
 induction ls with
 | nil=>cases h
 | cons x ls ih=>
  simp only [A6u,H7] at h;by_cases e:x=l
  ·subst e;rw [St.get_cons_same] at h;exact h
  ·rw [St.get_cons_ne e] at h;exact ih h
theorem C9r{ops:Array Oper}{i:Nat}{op:Op}{d:Option Nat}(h:ops[i]?.map (fun o=>(o.op,o.dst,o.guard.isNone))=some (op,d,true)):∃ o,ops[i]? = some o/\o.op=op/\o.dst=d/\o.guard=none:=by
 cases e:ops[i]? with
 | none=>rw [e] at h;cases h
 | some o=>
  rw [e] at h;simp only [M4,H2,B4F,Option.isNone_iff_eq_none] at h;exact ⟨o,rfl,h.1,h.2.1,h.2.2⟩
theorem B3J{n:Nat}{w0:World}{Z0:Gh}{s:St}{a:Act}{m:Mem}(h:Rel n w0 Z0 s a m){d:Nat}{v:AV}(hg:s.get (.t d)=some (.t v)):AVC s m v (a.eval (.tmp d)):=by
 have:=h.tm d v hg;simp only [Act.eval];exact this
abbrev Cd:=List (Int×Int)
def lR(codes:Cd):Option LV:=some (.t (.one (.rpa 257 L3 codes)))
def lM(b:Nat):Option LV:=some (.t (.one (.mpb b)))
def lI(k:Int):Option LV:=some (.t (.one (.int .i64 k)))
def uh0(codes:Cd)(xs:List Int):St:= [(.t 0,lR codes),(.t 1,some (.t (.one (.ro 5 (.int .u8) xs))))]
def uhB(codes:Cd)(xs:List Int)(b:Nat):St:=(.t 16,lR codes)::(.t 5,lM b)::(.t 15,lM b)::(.t 4,some (.t (.one (.str ⟨#[]⟩))))::uh0 codes xs
def lsB:List Loc:= [.t 16,.t 5,.t 15,.t 4,.t 0,.t 1]
abbrev uhE:A96:=C97 (cfg.withAr [(247,257,246)]) []
theorem E4S(codes:Cd)(xs:List Int):A7p uhE 81 (B0s (cA uhC)) (B0s (cA uhC)).toList (uh0 codes xs) (fun s=>some (A6u [.t 4,.t 0,.t 1] s))=some ((.t 4,some (.t (.one (.str ⟨#[]⟩))))::uh0 codes xs):=by kernel_rfl
theorem E4T(codes:Cd)(xs:List Int)(b:Nat):A7p uhE 81 (B0s (cA (cA (cB (cB uhC))))) (B0s (cA (cA (cB (cB uhC))))).toList ((.t 5,lM b)::(.t 15,lM b)::(.t 4,some (.t (.one (.str ⟨#[]⟩))))::uh0 codes xs) (fun s=>some (A6u (.t 18::lsB) s))=bif decide (0<codes.length) then some ((.t 18,lI 0)::uhB codes xs b) else none:=by kernel_rfl
theorem E2l(codes:Cd)(xs:List Int)(b:Nat)(k:Int):A7p uhE 81 (B0s (cA uhL)) (B0s (cA uhL)).toList ((.t 18,lI k)::uhB codes xs b) (fun s=>some (A6u (.t 19::.t 18::lsB) s))=some ((.t 19,some (.t (.one (.bool (decide (k<257))))))::(.t 18,lI k)::uhB codes xs b):=by kernel_rfl
theorem E4U(codes:Cd)(xs:List Int)(b:Nat)(k:Int):C19 uhE 81 (B0s (cA (cIn (cA (cB (cB uhL)))))) ((.t 18,lI k)::uhB codes xs b) (fun s=>some (A6u (.t 6::.t 7::.b 7::.t 18::lsB) s))=bif decide (0<codes.length) then bif decide (0<=k) then bif decide (k<(codes.length:Int)) then some ((.t 6,lI k)::(.t 7,some (.t (.one (.ptr 7 0))))::(.b 7,some (.b [.int .i64 (rd L3 codes k).1,.int .i64 (rd L3 codes k).2]))::(.t 18,lI k)::uhB codes xs b) else none else none else none:=by kernel_rfl
theorem E4V(codes:Cd)(xs:List Int)(b:Nat)(k x y:Int):A7p uhE 81 (B0s (cB (cIn (cA (cB (cB uhL)))))) ((B0s (cB (cIn (cA (cB (cB uhL)))))).toList.take 3) ((.t 6,lI k)::(.t 7,some (.t (.one (.ptr 7 0))))::(.b 7,some (.b [.int .i64 x,.int .i64 y]))::(.t 18,lI k)::uhB codes xs b) (fun s=>some (A6u (.t 24::.t 25::.t 26::.t 18::lsB) s))=some ((.t 24,lM b)::(.t 25,some (.t (.agg [.int .i64 x,.int .i64 y])))::(.t 26,lI k)::(.t 18,lI k)::uhB codes xs b):=by kernel_rfl
theorem E4W(codes:Cd)(xs:List Int)(b:Nat)(k:Int):A7p uhE 81 (B0s (cB (cB (cB uhL)))) (B0s (cB (cB (cB uhL)))).toList ((.t 18,lI k)::uhB codes xs b) (fun s=>some (A6u (.t 18::lsB) s))=some ((.t 18,lI (i64.wrap (k+1)))::uhB codes xs b):=by kernel_rfl
theorem E4a:(B0s (cA (cB uhC)))[0]?.map (fun o=>(o.op,o.dst,o.guard.isNone))=some (.makeMap 293 none,some 15,true):=by kernel_rfl
theorem E4b:(B0s (cA (cB uhC)))[1]?.map (fun o=>(o.op,o.dst,o.guard.isNone))=some (.assign (.tmp 15),some 5,true):=by kernel_rfl
theorem E4c:(B0s (cB (cIn (cA (cB (cB uhL))))))[3]?.map (fun o=>(o.op,o.dst,o.guard.isNone))=some (.mapUpdate 293 (.tmp 24) (.tmp 25) (.tmp 26),none,true):=by kernel_rfl
theorem E4d:(B0s (cA (cB uhC))).size=2:=by kernel_rfl
theorem E2m:(B0s (cB (cIn (cA (cB (cB uhL)))))).size=4:=by kernel_rfl
theorem E54{k:Nat}(h:k<257):i64.wrap ((k:Int)+1)=((k+1:Nat):Int):=by
 simp only [IntKind.wrap,IntKind.bits,IntKind.signed,L2];simp;split<;>omega
theorem B0b{P:Program}{E:A96}(hE:A51 P E){n id:Nat}{ops:Array Oper}{s:St}{ls:List Loc}{s1:St}(h:A7p E n ops ops.toList s (fun s=>some (A6u ls s))=some s1){w0:World}{Z0:Gh}{a:Act}{m:Mem}(hr:Rel n w0 Z0 s a m)
  {Q:Exit->Act->World->Prop} (hQ:∀ a' m',Rel n w0 Z0 s1 a' m'->Q .normal a' m'.w):(Code.region id ops false).wp P Q a m.w:=by
 obtain ⟨s',h1,_,h2⟩:=B9U (id:=id) hE h;injection h1 with h1
 subst h1;exact h2 w0 Z0 a m hr Q fun a' m' hr'=>hQ a' m' (hr'.weaken fun l lv hg=>B6T hg)
theorem C9s{P:Program}(hm:P.follows .mixedOrders=true){E:A96}(hE:A51 P E){n id:Nat}{ops:Array Oper}{s:St}{ls:List Loc}{s1:St}(h:C19 E n ops s (fun s=>some (A6u ls s))=some s1){w0:World}{Z0:Gh}{a:Act}{m:Mem}(hr:Rel n w0 Z0 s a m)
  {Q:Exit->Act->World->Prop} (hQ:∀ a' m',Rel n w0 Z0 s1 a' m'->Q .normal a' m'.w):(Code.region id ops true).wp P Q a m.w:=by
 obtain ⟨s',h1,_,h2⟩:=B7b (id:=id) hm hE h;injection h1 with h1
 subst h1;exact h2 w0 Z0 a m hr Q fun a' m' hr'=>hQ a' m' (hr'.weaken fun l lv hg=>B6T hg)
theorem C6N:A51 prog uhE:=B98 (A99 (l:= [(247,257,246)]) F4 ⟨C9C (f:=t247) (ti:=⟨true,L3,16,[(0,1,false),(1,1,false)]⟩) underlying247 (by kernel_rfl) (by kernel_rfl) (by kernel_rfl),trivial⟩) D9
theorem E0k{codes:Cd}{xs:List Int}{b k:Nat}(hc:codes.length=257)(hk:k<257){w0:World}{Z0:Gh}{a:Act}{m:Mem}{ents:Array MapEntry}{cl:Nat}(he:MpC (mkM codes k) ents)
  (hr:Rel 81 w0 {Z0 with al:= [(b,.map ents cl)]} ((.t 18,lI k)::uhB codes xs b) a m) {Q:Exit->Act->World->Prop}
  (hQ:∀ a' m' ents' cl',MpC (mkM codes (k+1)) ents'->Rel 81 w0 {Z0 with al:= [(b,.map ents' cl')]} ((.t 18,lI ((k+1:Nat):Int))::uhB codes xs b) a' m'->Q .normal a' m'.w):uhL.wp prog Q a m.w:=by
 rw [D6D];refine B4E (B0b C6N (E2l codes xs b k) hr fun a1 m1 hr1=>?_);have hc1:a1.eval (.tmp 19)=.bool true:=by
  have:=B3J hr1 (d:=19) (v:=.one (.bool (decide ((k:Int)<257)))) rfl;rw [R3 (show (k:Int)<257 by omega)] at this;exact this
 refine B4E (wp_cond_true hc1 (wp_skip ?_));have hr2:Rel 81 w0 {Z0 with al:= [(b,.map ents cl)]} ((.t 18,lI k)::uhB codes xs b) a1 m1:=hr1.weaken fun l lv hg=>by
  by_cases e:Loc.t 19=l
  ·subst e;simp [uhB,uh0,St.get,Loc.eqb] at hg
  ·rw [St.get_cons_ne e];exact hg
 refine B4E (wp_block (B4E (C9s MO C6N (s1:=(.t 6,lI k)::(.t 7,some (.t (.one (.ptr 7 0))))::(.b 7,some (.b [.int .i64 (rd L3 codes k).1,.int .i64 (rd L3 codes k).2]))::(.t 18,lI k)::uhB codes xs b) (by
  rw [E4U codes xs b k,R3 (show 0<codes.length by omega),R3 (show (0:Int)<=(k:Int) by omega),R3 (show (k:Int)<(codes.length:Int) by omega)];rfl) hr2 fun a2 m2 hr3=>?_)))
 refine wp_region ?_;rw [E2m];obtain ⟨s',h1,_,h2⟩:=C5V (tl:= [3]) C6N (i:=0) (fun j o hj=>by
  rw [E1,<- M2];rw [M3] at hj;split at hj
  ·exact hj
  ·cases hj) (E4V codes xs b k (rd L3 codes k).1 (rd L3 codes k).2)
 injection h1 with h1
 have hlen:((B0s (cB (cIn (cA (cB (cB uhL)))))).toList.take 3).length=3:=by
  rw [B4,E3,E2m];rfl
 rw [hlen] at h2;refine h2 _ _ a2 m2 hr3 _ fun a3 m3 hr4=>?_
 have hr5:=hr4.weaken (s1:=(.t 24,lM b)::(.t 25,some (.t (.agg [.int .i64 (rd L3 codes k).1,.int .i64 (rd L3 codes k).2])))::(.t 26,lI k)::(.t 18,lI k)::uhB codes xs b) fun l lv hg=>by
  rw [<- h1] at hg;exact B6T hg
 obtain ⟨o,ho,oop,od,og⟩:=C9r E4c;have v24:a3.eval (.tmp 24)=.map (some b):=B3J hr5 (d:=24) (v:=.one (.mpb b)) rfl;have v26:a3.eval (.tmp 26)=.int .i64 (k:Int):=B3J hr5 (d:=26) (v:=.one (.int .i64 k)) rfl;have v25:a3.eval (.tmp 25)=B4U (rd L3 codes k):=by
  obtain ⟨cs,hcs,hall⟩:=B3J hr5 (d:=25) (v:=.agg [.int .i64 (rd L3 codes k).1,.int .i64 (rd L3 codes k).2]) rfl;rw [hcs]
  match cs,hall with
  | [c0,c1],hall=>
   have e0:c0=.int .i64 (rd L3 codes k).1:=hall.1;have e1:c1=.int .i64 (rd L3 codes k).2:=hall.2.1;rw [e0,e1];rfl
 have hb:=(hr5.df.2 (b,.map ents cl) A6).2.2;obtain ⟨ents',cl',hrun,he'⟩:=uh_ty.update (rd L3 codes k) (k:Int) m3.w hb he;refine C08 ho og (nx:=.skip) (w':=m3.w.putObj b (.map ents' cl')) (v:=undef) (by
  simp only [execOp,oop,v24,v25,v26,D0,hrun];rfl) (.inr ⟨rfl,rfl⟩) ?_
 rw [od];have hr6:=(hr5.turnAl (.map ents' cl') (fun ts e=>by cases e)).putNone none undef (fun i hi=>by cases hi);have hr7:=hr6.weaken (s1:=(.t 18,lI k)::uhB codes xs b) fun l lv hg=>by
  by_cases e1:Loc.t 24=l
  ·subst e1;simp [uhB,uh0,St.get,Loc.eqb] at hg
  by_cases e2:Loc.t 25=l
  ·subst e2;simp [uhB,uh0,St.get,Loc.eqb] at hg
  by_cases e3:Loc.t 26=l
  ·subst e3;simp [uhB,uh0,St.get,Loc.eqb] at hg
  rw [St.get_cons_ne e1,St.get_cons_ne e2,St.get_cons_ne e3];exact hg
 show (Code.region 6 (B0s (cB (cB (cB uhL)))) false).wp prog Q _ _;refine B0b C6N (E4W codes xs b k) hr7 fun a4 m4 hr8=>?_
 rw [E54 hk] at hr8;exact hQ a4 m4 ents' cl' he' hr8
def uhS(codes:Cd)(xs:List Int):St:=(.t 5,some (.t (.one (.mp (mkM codes 257)))))::(.t 15,some (.t (.one (.mp (mkM codes 257)))))::(.t 4,some (.t (.one (.str ⟨#[]⟩))))::uh0 codes xs
theorem E3g{codes:Cd}{xs:List Int}(hc:codes.length=257){w0:World}{Z0:Gh}{a:Act}{m:Mem}{Q:Exit->Act->World->Prop}(ha:Z0.al = [])(hr:Rel 81 w0 Z0 (uh0 codes xs) a m)
  (hn:∀ a' m',Rel 81 w0 Z0 (uhS codes xs) a' m'->uhR.wp prog Q a' m'.w):uhC.wp prog Q a m.w:=by
 rw [E0j];refine B4E (B0b C6N (E4S codes xs) hr fun a1 m1 hr1=>?_);refine B4E (wp_region ?_);rw [E4d];obtain ⟨o1,ho1,op1,od1,og1⟩:=C9r E4a;obtain ⟨o2,ho2,op2,od2,og2⟩:=C9r E4b;show wpOps _ _ _ [0,1] _ _;refine C08 ho1 og1 (nx:=.value (.map (some m1.w.heap.size))) (w':=m1.w.alloc (.map #[] 0)) (v:=.map (some m1.w.heap.size)) (by
  simp only [execOp,op1,Option.map_none,Instr.makeMap,D0,run_newObj_alloc,I0,A4R]) (.inl rfl) ?_
 rw [od1];have hrA:=(hr1.newAlien (.map #[] 0) ha).put (d:=15) (v:=.one (.mpb m1.w.heap.size)) (x:=.map (some m1.w.heap.size)) (by omega) rfl;generalize hbk:m1.w.heap.size=b at *
 have v15:(a1.put (some 15) (.map (some b))).eval (.tmp 15)=.map (some b):=B3J hrA (d:=15) (v:=.one (.mpb b)) rfl;refine C08 ho2 og2 (nx:=.value (.map (some b))) (w':=m1.w.alloc (.map #[] 0)) (v:=.map (some b)) (by
  simp only [execOp,op2,v15,A4R]) (.inl rfl) ?_
 rw [od2];have hrB:=hrA.put (d:=5) (v:=.one (.mpb b)) (x:=.map (some b)) (by omega) rfl;show (Code.seq (.seq _ _) uhR).wp prog Q _ _;refine B4E (B4E (B0b C6N (s1:=(.t 18,lI 0)::uhB codes xs b) (by
  have:=E4T codes xs b;rw [R3 (show 0<codes.length by omega)] at this;exact this) hrB fun a2 m2 hr2=>?_))
 refine wp_block (wp_loop (fun a w=>∃ k m ents cl,k<=257/\m.w=w/\MpC (mkM codes k) ents/\Rel 81 w0 {Z0 with al:= [(b,.map ents cl)]} ((.t 18,lI (k:Nat))::uhB codes xs b) a m)
  (fun a w=>match a.eval (.tmp 18) with
   | .int _ k=>(257-k).toNat
   | _=>0) ⟨0,m2,#[],0,by omega,rfl,rfl,hr2⟩ ?_)
 rintro a3 w3 ⟨k,m3,ents,cl,hk,rfl,he,hr3⟩;have e18:a3.eval (.tmp 18)=.int .i64 (k:Int):=B3J hr3 (d:=18) (v:=.one (.int .i64 k)) rfl;by_cases hlt:k<257
 ·refine E0k hc hlt he hr3 fun a4 m4 ents' cl' he' hr4=>?_
  have e18':a4.eval (.tmp 18)=.int .i64 ((k+1:Nat):Int):=B3J hr4 (d:=18) (v:=.one (.int .i64 ((k+1:Nat):Int))) rfl;refine ⟨⟨k+1,m4,ents',cl',by omega,rfl,he',hr4⟩,?_⟩;simp only [e18,e18'];omega
 ·obtain rfl:k=257:=by omega
  rw [D6D];refine B4E (B0b C6N (E2l codes xs b ((257:Nat):Int)) hr3 fun a4 m4 hr4=>?_);have hc1:a4.eval (.tmp 19)=.bool false:=by
   have:=B3J hr4 (d:=19) (v:=.one (.bool (decide (((257:Nat):Int)<257)))) rfl;rw [T3 (by omega)] at this;exact this
  refine B4E (wp_cond_false hc1 (wp_exit ?_));show uhR.wp prog Q a4 m4.w;obtain ⟨hd,hh⟩:=Rel.doneAl ha hr4 (fun ts e=>by cases e);have v5:a4.tmps.getD 5 undef=.map (some b):=hr4.tm 5 (.one (.mpb b)) rfl;have v15':a4.tmps.getD 15 undef=.map (some b):=hr4.tm 15 (.one (.mpb b)) rfl;have hw:=hd.weaken (s1:=(.t 4,some (.t (.one (.str ⟨#[]⟩))))::uh0 codes xs) fun l lv hg=>by
   by_cases e1:Loc.t 19=l
   ·subst e1;simp [uh0,St.get,Loc.eqb] at hg
   by_cases e2:Loc.t 18=l
   ·subst e2;simp [uh0,St.get,Loc.eqb] at hg
   by_cases e3:Loc.t 16=l
   ·subst e3;simp [uh0,St.get,Loc.eqb] at hg
   by_cases e4:Loc.t 5=l
   ·subst e4;simp [uh0,St.get,Loc.eqb] at hg
   by_cases e5:Loc.t 15=l
   ·subst e5;simp [uh0,St.get,Loc.eqb] at hg
   unfold uhB;rw [St.get_cons_ne e1,St.get_cons_ne e2,St.get_cons_ne e3,St.get_cons_ne e4,St.get_cons_ne e5];exact hg
  have h15:=hw.retell (d:=15) (v:=.one (.mp (mkM codes 257))) ⟨b,ents,cl,v15',A9 rfl,hh,he⟩;have h5:=h15.retell (d:=5) (v:=.one (.mp (mkM codes 257))) ⟨b,ents,cl,v5,A9 rfl,hh,he⟩;exact hn a4 ⟨m4.w,fun c=>if c=b then none else m4.Z c,m4.ρ,m4.β⟩ h5
abbrev D2E:List PK:= [.val false (.pa 257 L3) false,.val false (.rs 5 (.int .u8)) false]
abbrev E0l:List RK:= [.val false .str]
def E3h(x:Ts (ins D2E)):Option St:=bif decide (x.1.length=257) then some (uhS x.1 x.2.1) else none
theorem D6E:f265.ntmps=81:=by kernel_rfl
theorem E4e:f265.results.toList = [.tmp 4]:=by kernel_rfl
theorem E2J:f265.body=some uhC:=by kernel_rfl
noncomputable def E3i(An:Nat->Option Jn)(x:Ts (ins D2E)):Option (Ts (outs E0l D2E)):=bif decide (x.1.length=257) then ev (D9T (cfg.withAr [(247,257,246)]) [] 293) (cfg.withAr [(247,257,246)]).ck 81 An uhR 15 (uhS x.1 x.2.1) (Ts (outs E0l D2E)) (fun e s=>match e with
 | .exit _=>none
 | _=>B4S (cfg.withAr [(247,257,246)]) [.tmp 4] E0l D2E x s) else none
theorem E0m{An:Nat->Option Jn}{g:Ts (ins D2E)->Option (Ts (outs E0l D2E))}(e:∀ x,E3i An x=g x):A2I prog 265 ⟨D2E,E0l,g⟩:=by
 have hc:=A99 (l:= [(247,257,246)]) F4 ⟨C9C (f:=t247) (ti:=⟨true,L3,16,[(0,1,false),(1,1,false)]⟩) underlying247 (by kernel_rfl) (by kernel_rfl) (by kernel_rfl),trivial⟩;refine C8C MO hc (D9U hc D9 uh_ty) func265 E2J (An:=An) (by rw [D6E];decide) (by rw [D6E];decide) (by decide) (by decide) (rest:=uhR) (pos:=15) (sB:=E3h) ?_ ?_
 ·intro x s1 w Z0 a m Q hs ha hr hn;rw [D6E] at hr hn;unfold E3h at hs;cases hl:decide (x.1.length=257) with
  | false=>rw [hl] at hs;cases hs
  | true=>
   rw [hl] at hs;injection hs with hs
   subst hs;exact E3g (B8 hl) ha hr hn
 ·intro x;rw [D6E,E4e,<- e x];unfold E3i E3h;cases decide (x.1.length=257)<;>rfl
end Go.Proofs.YthnfghmjipikhaaGreatDoor.Ev
