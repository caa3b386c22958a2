/- slices.Grow at bytes, as a contract. -/
import Derived.Test.YthnfghmjipikhaaGreatDoorLibT
set_option linter.unusedVariables false
set_option linter.unusedSimpArgs false
namespace Go.Proofs.YthnfghmjipikhaaGreatDoor.Ev
open Tryz
open Go.RowKit Go.Lib Go.Sort Go.Shelf
def growRenB:Go.Shelf.Ren:=⟨fun | 4=>153 | n=>n,fun | 22=>27 | 25=>5 | n=>n,fun n=>n⟩
theorem C1q:Lays8.n4 prog growRenB:={
 mixed:=by kernel_rfl
 f4:=⟨f153.name,by decide,func153.trans (J7 some (by kernel_rfl))⟩
 t0:=underlying0
 a0:=Tryz.isAgg0
 z0:=Tryz.sizeOf0
 v0:=Tryz.zeroValue0
 t3:=underlying3
 a3:=Tryz.isAgg3
 z3:=Tryz.sizeOf3
 v3:=Tryz.zeroValue3
 t4:=underlying4
 a4:=Tryz.isAgg4
 z4:=Tryz.sizeOf4
 v4:=Tryz.zeroValue4
 t9:=underlying9
 a9:=Tryz.isAgg9
 z9:=Tryz.sizeOf9
 v9:=Tryz.zeroValue9
 t20:=underlying20
 a20:=Tryz.isAgg20
 z20:=Tryz.sizeOf20
 v20:=Tryz.zeroValue20
 t22:=underlying27
 a22:=Tryz.isAgg27
 z22:=Tryz.sizeOf27
 v22:=Tryz.zeroValue27}
set_option maxHeartbeats 1000000 in
set_option maxRecDepth 100000 in
theorem C3w:A2I prog 153 ⟨[.val false (.sl 5 (.int .u8)) false,.val false (.int .i64) false],[.val false (.sl 5 (.int .u8))],fun x=>B0i x.1 x.2.1⟩:=by
 intro x y hy w Z pls args hargs;obtain ⟨xs,n,u⟩:=x;simp only [B0i] at hy;obtain ⟨h1,hy2⟩:=I5 hy
 clear hy
 simp only [B5,I8,B5G] at h1;obtain ⟨⟨h0,h1⟩,h2⟩:=h1;have hnil:xs = []:=h0
 clear h0
 subst hnil;injection hy2 with hy2;subst hy2
 obtain ⟨cs,r,rfl,⟨v,rfl,inner,hown,hcol,hels⟩,_,cs2,r2,rfl,hlv2,_,rfl,hg⟩:=hargs;have hlv2:cs2 = [.int .i64 n]:=hlv2;subst hlv2
 replace hown:owns w 0 5 1 v 0 inner:=hown
 replace hcol:∀ g,v.ownBlock=some g->Z g=some [2*1000]:=hcol
 obtain ⟨n,rfl⟩:∃ a:Nat,n=(a:Int):=⟨Int.toNat n,(A1H h1).symm⟩;have hn:n<=1000000000000:=by
  have h3:((n:Nat):Int)<=1000000000000:=h2;omega
 have hi0:prog.info? (growRenB.t 25)=some t5:=by kernel_rfl
 have hz0:t5.zero=some (.int .u8 0):=by kernel_rfl
 have hsz:t5.size=1:=by kernel_rfl
 have hby:t5.bytes=1:=by kernel_rfl
 have fin:∀ (v':Value) (w':World),(∀ b,b<w.heap.size->v'.ownBlock≠some b->w'.heap[b]? = w.heap[b]?)->(∀ b,v'.ownBlock=some b->b<w.heap.size->Z b=some [2*1000])->Later w w'->owns w' 0 5 1 v' 0 []->
   ∃ Z' vals,Ending.returned v' = .returned (pack vals)/\Keeps w w' Z Z'/\Fore w w' Z Z'/\Later w w'/\C17 w' Z' pls [PK.val false (.sl 5 (.int .u8)) false,PK.val false (.int .i64) false] [toV false [v],toV false [.int .i64 n]] 0 [RK.val false (.sl 5 (.int .u8))] ([],()) vals:=by
  intro v' w' hb hv hl ho;obtain ⟨hk,hf⟩:=B54 (w:=w) (w':=w') (Z:=Z) v' hb (fun b h hb=>by rw [hv b h hb];exact ⟨by simp,by simp⟩);refine ⟨_,[v'],rfl,hk,hf,hl,[v'],[],rfl,⟨v',rfl,[],ho,fun g hg2=>?_,fun j hj=>by simp at hj⟩,.inr rfl,rfl,_,[_],rfl,_,[],rfl,rfl⟩;simp only [C6L];rw [A9 hg2]
 rcases hown.2 with ⟨rfl,_⟩ | ⟨g,cap,cur,fz,rfl,_,hgh,hfz,hnc,hcM,hcs,ht⟩
 ·by_cases hn0:n=0
  ·subst hn0;refine (Any8.slices_Grow_room C1q none 0 0 0 w (C1 _) (by omega) (by omega) (by omega)).mono ?_;rintro e w' ⟨rfl,rfl⟩;exact fin (.slice none 0 0) w' (fun b _ _=>rfl) (fun b h=>by cases h) ⟨C1 _,rfl,rfl,rfl⟩ (A6f _ _ _ _)
  ·refine (Any8.slices_Grow_grow C1q t5 _ hi0 hz0 (by rw [hsz];omega) none 0 0 n [] w (C1 _) (by omega) (by rw [hby];omega) (by omega) (by simp) (fun _=>rfl) (fun a h=>by cases h)).mono ?_;rintro e w' ⟨rfl,rfl⟩;refine fin _ _ (fun b hb _=>alloc_old w.drew _ b hb) (fun b h hb=>?_) ⟨by simp,rfl,rfl,rfl⟩ ?_
   ·simp only [Value.ownBlock,H2] at h;omega
   ·have hG:n<=grownCap w (0+n) 0 (growRenB.t 25):=by have:=A3K w (0+n) 0 (growRenB.t 25);omega
    have hGM:grownCap w (0+n) 0 (growRenB.t 25)<=maxLen:=V8 w (0+n) 0 (growRenB.t 25) (by unfold maxLen;omega);refine ⟨by simp,.inr ⟨w.heap.size,grownCap w (0+n) 0 (growRenB.t 25),_,(0,0),rfl,H4 _,A1v w.drew _,⟨.inl rfl,.inl rfl⟩,H4 _,hGM,?_,by simp⟩⟩;simp only [A0I,A1D,G8,J2];show 0+(0+n-0)*1+(grownCap w (0+n) 0 (growRenB.t 25)-(0+n))*1=grownCap w (0+n) 0 (growRenB.t 25)*1;omega
 ·have hphi:=hcol g rfl;by_cases hr:n<=cap
  ·refine (Any8.slices_Grow_room C1q (some ⟨g,0,none⟩) 0 cap n w (H4 _) (by unfold maxLen at hcM;omega) (by omega) (by omega)).mono ?_;rintro e w' ⟨rfl,rfl⟩;refine fin (.slice (some ⟨g,0,none⟩) 0 cap) w' (fun b _ _=>rfl) (fun b h _=>?_) ⟨C1 _,rfl,rfl,rfl⟩ ?_
   ·simp only [Value.ownBlock,H2] at h;rw [<- h];exact hphi
   ·have hin:inner = []:=by have:=hown.1;simpa using this
    rw [<- hin];exact hown
  ·have hcl:cur.toList.length=cap*1:=by rw [E3];exact hcs
   refine (Any8.slices_Grow_grow C1q t5 _ hi0 hz0 (by rw [hsz];omega) (some ⟨g,0,none⟩) 0 cap n cur.toList w (H4 _) (by omega) (by rw [hby];omega) (by omega) (by rw [hcl,hsz]) (fun h=>by cases h) (fun a h j v hj=>by
    injection h with h;subst h
    rw [A04,E1,A2h w g j cur 5 _ hgh];simpa using hj)).mono ?_
   rintro e w' ⟨rfl,rfl⟩;refine fin _ _ (fun b hb _=>alloc_old w.drew _ b hb) (fun b h hb=>?_) ⟨by simp,rfl,rfl,rfl⟩ ?_
   ·simp only [Value.ownBlock,H2] at h;omega
   ·have hG:n<=grownCap w (0+n) cap (growRenB.t 25):=by have:=A3K w (0+n) cap (growRenB.t 25);omega
    have hGM:grownCap w (0+n) cap (growRenB.t 25)<=maxLen:=V8 w (0+n) cap (growRenB.t 25) (by unfold maxLen;omega);refine ⟨by simp,.inr ⟨w.heap.size,grownCap w (0+n) cap (growRenB.t 25),_,(0,0),rfl,H4 _,A1v w.drew _,⟨.inl rfl,.inl rfl⟩,H4 _,hGM,?_,by simp⟩⟩;simp only [A0I,A1D,G8,hcl];show cap*1+(0+n-cap)*1+(grownCap w (0+n) cap (growRenB.t 25)-(0+n))*1=grownCap w (0+n) cap (growRenB.t 25)*1;omega
end Go.Proofs.YthnfghmjipikhaaGreatDoor.Ev
