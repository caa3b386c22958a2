/- The library's functions on texts, and slices.Grow of what is empty: their contracts. -/
import Derived.Test.YthnfghmjipikhaaGreatDoorEvC
import Derived.Test.YthnfghmjipikhaaGreatDoorShelf
import Derived.Shelf.Spec.SlicesGrow
import Derived.Lib.ConvBytes
import Derived.Laws.Externs
import Derived.Laws.NewBlocks
import Derived.Lib.AppendZerosOnto
set_option linter.unusedVariables false
set_option linter.unusedSimpArgs false
set_option linter.defProp false
namespace Go.Proofs.YthnfghmjipikhaaGreatDoor.Ev
open Tryz
def B0i:=@Any8.slices_Grow_room
def B0j:=@Any8.slices_Grow_grow
open Go.RowKit Go.Lib Go.Sort Go.Shelf
def B9V(w:World)(Z:Col)(v:Value):Col:=fun b=>if v.ownBlock=some b then some [2*rR 0] else if b<w.heap.size then Z b else none
theorem B1S{w w':World}{Z:Col}(v:Value)(hb:∀ b,b<w.heap.size->v.ownBlock≠some b->w'.heap[b]? = w.heap[b]?)(hv:∀ b,v.ownBlock=some b->b<w.heap.size->Z b≠none/\Z b≠some []) :
  Keeps w w' Z (B9V w Z v)/\Fore w w' Z (B9V w Z v):=by
 constructor
 ·intro b h hlt;have hne:v.ownBlock≠some b:=fun e=>(hv b e hlt).1 h
  exact ⟨hb b hlt hne,by simp only [B9V];rw [D6 hne,G0 hlt];exact h⟩
 ·intro b h hlt;have hne:v.ownBlock≠some b:=fun e=>(hv b e hlt).2 h
  exact ⟨hb b hlt hne,by simp only [B9V];rw [D6 hne,G0 hlt];exact h⟩
theorem C3d:A0O prog 142 ⟨[.val false (.int .i64) false],[.val false .str],fun x=>B6Q x.1⟩:=by
 intro x y hy w Z pls args hargs;obtain ⟨n,u⟩:=x;simp only [B6Q] at hy;obtain ⟨h1,hy⟩:=G7 hy;simp only [B3,Q1] at h1;injection hy with hy;subst hy
 obtain ⟨cs,r,rfl,hlv,_,rfl,hg⟩:=hargs;have hlv:cs = [.int .i64 n]:=hlv;subst hlv;refine (Tryz.strconv_Itoa n h1.1 h1.2 w hg.2.2.1).mono ?_;rintro e w' ⟨rfl,k,os,rfl⟩;obtain ⟨hk,hf⟩:=B1S (w:=w) (w':=grow (w.drewN k) os) (Z:=Z) (.bool true) (fun b hb _=>heap_grow_old _ _ hb) (fun b h=>by cases h);exact ⟨_,[.string _],rfl,hk,hf,⟨by simp,rfl,rfl,rfl⟩,[.string _],[],rfl,rfl,.inr rfl,rfl,_,[],rfl,rfl⟩
theorem C3e:A0O prog 233 ⟨[.val false .str false],[.val false (.int .i64),.val false (.fnc 999999999)],fun x=>A9O x.1⟩:=by
 intro x y hy w Z pls args hargs;obtain ⟨s,u⟩:=x;simp only [A9O] at hy;obtain ⟨h1,hy⟩:=G7 hy;have h1:=A8 h1;split at hy
 ·rename_i n hn;injection hy with hy;subst hy
  obtain ⟨cs,r,rfl,hlv,_,rfl,hg⟩:=hargs;have hlv:cs = [.string s]:=hlv;subst hlv;refine (Tryz.strconv_Atoi s n h1 hn w).mono ?_;rintro e w' ⟨rfl,t,rfl⟩;have hold:∀ b,b<w.heap.size->(Lib.bytesWorld w 5 t).heap[b]? = w.heap[b]?:=fun b hb=>by
   unfold Lib.bytesWorld World.freeze;rw [D6 (by decide)];simp only [A44];rw [D6 (by omega)];exact alloc_old w.drew _ b hb
  have hsz:w.heap.size<=(Lib.bytesWorld w 5 t).heap.size:=by
   unfold Lib.bytesWorld World.freeze;rw [D6 (by decide)];simp
  have hot:(Lib.bytesWorld w 5 t).os=w.os/\(Lib.bytesWorld w 5 t).tape=w.tape/\(Lib.bytesWorld w 5 t).output=w.output:=by
   unfold Lib.bytesWorld World.freeze;rw [D6 (by decide)];exact ⟨rfl,rfl,rfl⟩
  obtain ⟨hk,hf⟩:=B1S (w:=w) (w':=Lib.bytesWorld w 5 t) (Z:=Z) (.bool true) (fun b hb _=>hold b hb) (fun b h=>by cases h);exact ⟨_,[.int .i64 n,.nilIface],rfl,hk,hf,⟨hsz,hot.1,hot.2.1,hot.2.2⟩,[.int .i64 n],[.nilIface],rfl,rfl,.inr rfl,[.nilIface],[],rfl,rfl,.inr rfl,rfl,_,[],rfl,rfl⟩
 ·cases hy
theorem C62:A0O prog 232 ⟨[.val false .str false,.val false .str false],[.val false .str,.val false .str,.val false .bool],fun x=>B6P x.1 x.2.1⟩:=by
 intro x y hy w Z pls args hargs;obtain ⟨s,sep,u⟩:=x;simp only [B6P] at hy;obtain ⟨h1,hy⟩:=G7 hy;have h1:=A8 h1;injection hy with hy;subst hy
 obtain ⟨cs,r,rfl,hlv,_,cs2,r2,rfl,hlv2,_,rfl,hg⟩:=hargs;have hlv:cs = [.string s]:=hlv;have hlv2:cs2 = [.string sep]:=hlv2;subst hlv;subst hlv2;obtain ⟨m,hm⟩:=hg.1;refine (Tryz.strings_Cut s sep m w h1 hm).mono ?_;rintro e w' ⟨rfl,k,rfl⟩;obtain ⟨hk,hf⟩:=B1S (w:=w) (w':=w.drewN k) (Z:=Z) (.bool true) (fun b hb _=>rfl) (fun b h=>by cases h);exact ⟨_,[_,_,_],rfl,hk,hf,⟨C6 _,rfl,rfl,rfl⟩,[_],[_,_],rfl,rfl,.inr rfl,[_],[_],rfl,rfl,.inr rfl,[_],[],rfl,rfl,.inr rfl,rfl,_,[_],rfl,_,[],rfl,rfl⟩
theorem C1q:A0O prog 231 ⟨[.val false .str false,.val false .str false],[.val false (.sl 9 .str)],fun x=>A4h x.1 x.2.1⟩:=by
 intro x y hy w Z pls args hargs;obtain ⟨s,sep,u⟩:=x;simp only [A4h] at hy;obtain ⟨h1,hy⟩:=G7 hy;simp only [B3,Q1] at h1;injection hy with hy;subst hy
 obtain ⟨cs,r,rfl,hlv,_,cs2,r2,rfl,hlv2,_,rfl,hg⟩:=hargs;have hlv:cs = [.string s]:=hlv;have hlv2:cs2 = [.string sep]:=hlv2;subst hlv;subst hlv2;obtain ⟨m,hm⟩:=hg.1;have hlen:=Lib.splitB_all sep h1.2 0 _ s rfl;refine (Tryz.strings_Split s sep m w h1.1 hm h1.2).mono ?_;rintro e w' ⟨rfl,rfl⟩;generalize hL:Lib.splitB sep 0 (Lib.countB s sep) s=L at *
 rw [<- hlen];have hbound:L.length<=4294967282:=by
  have:=Lib.countB_le sep h1.2 s.size s (C6 _);omega
 obtain ⟨hk,hf⟩:=B1S (w:=w) (w':=w.alloc (.cells (L.map Value.string).toArray 9)) (Z:=Z) (.slice (some ⟨w.heap.size,0,none⟩) L.length L.length) (fun b hb _=>alloc_old w _ b hb) (fun b h hb=>by
  simp only [Value.ownBlock,H5] at h;omega)
 refine ⟨_,[_],rfl,hk,hf,⟨by simp,rfl,rfl,rfl⟩,[_],[],rfl,?_,.inr rfl,rfl,_,[_],rfl,_,[],rfl,rfl⟩;refine ⟨_,rfl,L.map Value.string,?_,fun g hg2=>?_,fun j hj=>?_⟩
 ·exact A7E (A3s (e:=9) (size:=1) w (L.map Value.string).toArray L.length (G6 _) (by simp only [maxLen];omega) (by simp))
 ·simp only [B9V];rw [G0 hg2]
 ·show (((L.map Value.string).drop (j*1)).take 1) = [Value.string L[j]];rw [A0P,I0 (by simpa using hj)];simp
def growRen:Go.Shelf.Ren:=⟨fun | 4=>230 | n=>n,fun | 22=>30 | 25=>150 | n=>n,fun n=>n⟩
theorem B6N:Lays8.n4 prog growRen:={
 mixed:=by kernel_rfl
 f4:=⟨f230.name,by decide,func230.trans (Q9 some (by kernel_rfl))⟩
 t0:=underlying0
 a0:=Tryz.isAgg0
 z0:=Tryz.sizeOf0
 v0:=Tryz.zeroValue0
 t3:=underlying3
 a3:=Tryz.isAgg3
 z3:=Tryz.sizeOf3
 v3:=Tryz.zeroValue3
 t4:=underlying4
 a4:=Tryz.isAgg4
 z4:=Tryz.sizeOf4
 v4:=Tryz.zeroValue4
 t9:=underlying9
 a9:=Tryz.isAgg9
 z9:=Tryz.sizeOf9
 v9:=Tryz.zeroValue9
 t20:=underlying20
 a20:=Tryz.isAgg20
 z20:=Tryz.sizeOf20
 v20:=Tryz.zeroValue20
 t22:=underlying30
 a22:=Tryz.isAgg30
 z22:=Tryz.sizeOf30
 v22:=Tryz.zeroValue30}
set_option maxHeartbeats 1000000 in
set_option maxRecDepth 100000 in
theorem B4u:A0O prog 230 ⟨[.val false (.sl 150 (.pair .str .str)) false,.val false (.int .i64) false],[.val false (.sl 150 (.pair .str .str))],fun x=>B4R x.1 x.2.1⟩:=by
 intro x y hy w Z pls args hargs;obtain ⟨xs,n,u⟩:=x;simp only [B4R] at hy;obtain ⟨h1,hy2⟩:=G7 hy
 clear hy
 simp only [B3,Q1,List.isEmpty_iff] at h1;obtain ⟨⟨h0,h1⟩,h2⟩:=h1;have hnil:xs = []:=h0
 clear h0
 subst hnil;injection hy2 with hy2;subst hy2
 obtain ⟨cs,r,rfl,⟨v,rfl,inner,hown,hcol,hels⟩,_,cs2,r2,rfl,hlv2,_,rfl,hg⟩:=hargs;have hlv2:cs2 = [.int .i64 n]:=hlv2;subst hlv2
 replace hown:owns w 0 150 2 v 0 inner:=hown
 replace hcol:∀ g,v.ownBlock=some g->Z g=some [2*1000]:=hcol
 obtain ⟨n,rfl⟩:∃ a:Nat,n=(a:Int):=⟨Int.toNat n,(A28 h1).symm⟩;have hn:n<=1000000000000:=by
  have h3:((n:Nat):Int)<=1000000000000:=h2;omega
 have hi0:prog.info? (growRen.t 25)=some t150:=by kernel_rfl
 have hz0:t150.zero=some (.agg #[Value.string {data:=#[]},Value.string {data:=#[]}]):=by kernel_rfl
 have hsz:t150.size=2:=by kernel_rfl
 have hby:t150.bytes=32:=by kernel_rfl
 have fin:∀ (v':Value) (w':World),(∀ b,b<w.heap.size->v'.ownBlock≠some b->w'.heap[b]? = w.heap[b]?)->(∀ b,v'.ownBlock=some b->b<w.heap.size->Z b=some [2*1000])->Later w w'->owns w' 0 150 2 v' 0 []->
   ∃ Z' vals,Ending.returned v' = .returned (pack vals)/\Keeps w w' Z Z'/\Fore w w' Z Z'/\Later w w'/\B8J w' Z' pls [PK.val false (.sl 150 (.pair .str .str)) false,PK.val false (.int .i64) false] [toV false [v],toV false [.int .i64 n]] 0 [RK.val false (.sl 150 (.pair .str .str))] ([],()) vals:=by
  intro v' w' hb hv hl ho;obtain ⟨hk,hf⟩:=B1S (w:=w) (w':=w') (Z:=Z) v' hb (fun b h hb=>by rw [hv b h hb];exact ⟨by simp,by simp⟩);refine ⟨_,[v'],rfl,hk,hf,hl,[v'],[],rfl,⟨v',rfl,[],ho,fun g hg2=>?_,fun j hj=>by simp at hj⟩,.inr rfl,rfl,_,[_],rfl,_,[],rfl,rfl⟩;simp only [B9V];rw [G0 hg2]
 rcases hown.2 with ⟨rfl,_⟩ | ⟨g,cap,cur,fz,rfl,_,hgh,hfz,hnc,hcM,hcs,ht⟩
 ·by_cases hn0:n=0
  ·subst hn0;refine (B0i B6N none 0 0 0 w (C6 _) (by omega) (by omega) (by omega)).mono ?_;rintro e w' ⟨rfl,rfl⟩;exact fin (.slice none 0 0) w' (fun b _ _=>rfl) (fun b h=>by cases h) ⟨C6 _,rfl,rfl,rfl⟩ (A3M _ _ _ _)
  ·refine (B0j B6N t150 _ hi0 hz0 (by rw [hsz];omega) none 0 0 n [] w (C6 _) (by omega) (by rw [hby];omega) (by omega) (by simp) (fun _=>rfl) (fun a h=>by cases h)).mono ?_;rintro e w' ⟨rfl,rfl⟩;refine fin _ _ (fun b hb _=>alloc_old w.drew _ b hb) (fun b h hb=>?_) ⟨by simp,rfl,rfl,rfl⟩ ?_
   ·simp only [Value.ownBlock,H5] at h;omega
   ·have hG:n<=grownCap w (0+n) 0 (growRen.t 25):=by have:=A1L w (0+n) 0 (growRen.t 25);omega
    have hGM:grownCap w (0+n) 0 (growRen.t 25)<=maxLen:=R3 w (0+n) 0 (growRen.t 25) (by unfold maxLen;omega);refine ⟨by simp,.inr ⟨w.heap.size,grownCap w (0+n) 0 (growRen.t 25),_,(0,0),rfl,G6 _,A0H w.drew _,⟨.inl rfl,.inl rfl⟩,G6 _,hGM,?_,by simp⟩⟩;simp only [S2,U4,F7,I1];show 0+(0+n-0)*2+(grownCap w (0+n) 0 (growRen.t 25)-(0+n))*2=grownCap w (0+n) 0 (growRen.t 25)*2;omega
 ·have hphi:=hcol g rfl;by_cases hr:n<=cap
  ·refine (B0i B6N (some ⟨g,0,none⟩) 0 cap n w (G6 _) (by unfold maxLen at hcM;omega) (by omega) (by omega)).mono ?_;rintro e w' ⟨rfl,rfl⟩;refine fin (.slice (some ⟨g,0,none⟩) 0 cap) w' (fun b _ _=>rfl) (fun b h _=>?_) ⟨C6 _,rfl,rfl,rfl⟩ ?_
   ·simp only [Value.ownBlock,H5] at h;rw [<- h];exact hphi
   ·have hin:inner = []:=by have:=hown.1;simpa using this
    rw [<- hin];exact hown
  ·have hcl:cur.toList.length=cap*2:=by rw [D4];exact hcs
   refine (B0j B6N t150 _ hi0 hz0 (by rw [hsz];omega) (some ⟨g,0,none⟩) 0 cap n cur.toList w (G6 _) (by omega) (by rw [hby];omega) (by omega) (by rw [hcl,hsz]) (fun h=>by cases h) (fun a h j v hj=>by
    injection h with h;subst h
    rw [R4,D9,A1J w g j cur 150 _ hgh];simpa using hj)).mono ?_
   rintro e w' ⟨rfl,rfl⟩;refine fin _ _ (fun b hb _=>alloc_old w.drew _ b hb) (fun b h hb=>?_) ⟨by simp,rfl,rfl,rfl⟩ ?_
   ·simp only [Value.ownBlock,H5] at h;omega
   ·have hG:n<=grownCap w (0+n) cap (growRen.t 25):=by have:=A1L w (0+n) cap (growRen.t 25);omega
    have hGM:grownCap w (0+n) cap (growRen.t 25)<=maxLen:=R3 w (0+n) cap (growRen.t 25) (by unfold maxLen;omega);refine ⟨by simp,.inr ⟨w.heap.size,grownCap w (0+n) cap (growRen.t 25),_,(0,0),rfl,G6 _,A0H w.drew _,⟨.inl rfl,.inl rfl⟩,G6 _,hGM,?_,by simp⟩⟩;simp only [S2,U4,F7,hcl];show cap*2+(0+n-cap)*2+(grownCap w (0+n) cap (growRen.t 25)-(0+n))*2=grownCap w (0+n) cap (growRen.t 25)*2;omega
end Go.Proofs.YthnfghmjipikhaaGreatDoor.Ev
