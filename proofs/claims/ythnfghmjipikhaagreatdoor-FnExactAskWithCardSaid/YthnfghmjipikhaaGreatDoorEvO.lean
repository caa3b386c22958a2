/- A row that the call owns, of which nothing that it can write is frozen. -/
import Derived.Laws.AppendOwn
import Derived.Laws.AppendOwnNone
import Derived.Laws.OwnMore
import Derived.Laws.MakeOwn
import Derived.Laws.BytesArg
import Derived.Laws.Rows
set_option linter.unusedVariables false
set_option linter.defProp false
namespace Go.Proofs.YthnfghmjipikhaaGreatDoor.Ev
open IntKind (i64 u8 u64 u32)
def B0h:=@Bool.and_eq_false_iff
def A9H:=@decide_eq_false_iff_not
def A9:=@Array.getElem?_eq_some_iff
def A1J:=@cell_of_row
def L3:=@List.getElem?_take
def F4:=@List.append_nil
def I1:=@List.length_nil
def J0:=@Nat.add_zero
def M2:=@List.take_append_drop
def R6:=@Array.toArray_toList
def B4O:=@setCell_eq_setRow
def O1:=@setRow_heap
def C4:=@Sem.run_bind
def H2:=@Result.andThen_ok
def A8j:=@setRow_setRow
def A1K:=@Array.toList_setIfInBounds
def L9:=@Nat.add_assoc
def B2U:=@run_firstCells_some
def F9:=@run_underlying
def R4:=@Addr.add_lit
def F0:=@List.eq_nil_of_length_eq_zero
def A3:=@List.length_append
def J7:=@Nat.add_mul
def E1:=@Nat.mul_le_mul_right
def F7:=@List.size_toArray
def B2:=@List.length_take
def C5:=@List.length_drop
def D4:=@Array.length_toList
def T3:=@setRow_other
def R7:=@List.take_left
def B0c:=@run_append_grow
def A3o:=@growslice_fits
def A1L:=@grownCap_ge
def R3:=@grownCap_le_maxLen
def A0H:=@heap_alloc_new
def S2:=@Array.size_append
def U4:=@size_zeroCells
def A0C:=@Array.toList_append
def A7:=@List.append_assoc
def T7:=@Nat.one_pos
def A6:=@List.mem_singleton
def C9:=@List.mem_append
def A73:=@Nat.lt_of_lt_of_le
def I6:=@World.cell?_of_block
def J2:=@World.block_lt_of_cell?
def H3:=@Array.getElem?_eq_getElem
def C6:=@Nat.le_refl
def G6:=@Nat.zero_le
def C3:=@List.getElem?_eq_some_iff
def F8:=@List.getElem?_take_of_lt
def F3:=@List.getElem?_drop
def A9I:=@Option.bind_some
def G9:=@List.length_cons
def A5:=@List.mem_cons_self
def B5:=@List.mem_cons_of_mem
def A00:=@Nat.le_trans
def A3p:=@List.nodup_nil
def C8:=@List.all_eq_true
def P9:=@Bool.not_eq_true'
def Q0:=@List.any_eq_false
def E6:=@List.mem_flatMap
def I4:=@Array.getD_eq_getD_getElem?
def A5v:=@Array.getElem?_setIfInBounds
def G0:=@if_pos
def D6:=@if_neg
def G3:=@List.map_cons
def C7:=@List.cons_append
def D0:=@List.mem_map
def A0b:=@List.drop_eq_nil_of_le
def C0:=@List.getElem?_eq_getElem
def I0:=@List.drop_eq_getElem_cons
def A0I:=@decide_eq_true
def H4:=@Bool.not_true
def A0c:=@Bool.false_eq_true
def A0J:=@if_false
def A2c:=@Bool.true_and
def Q5:=@decide_eq_false
def L6:=@List.drop_drop
def E2:=@List.mem_append_left
def D3:=@List.mem_append_right
def L4:=@Nat.blt_eq
def E3:=@List.getElem?_append_left
def E5:=@List.getElem?_append_right
def A0d:=@Nat.zero_mul
def D9:=@Nat.zero_add
def Q7:=@if_true
def C2:=@List.getD_eq_getElem?_getD
def A0:=@Nat.eq_of_beq_eq_true
def B4:=@List.mem_cons
def N7:=@List.not_mem_nil
def A3q:=@or_false
def B6:=@cond_true
def B0:=@cond_false
def A8:=@of_decide_eq_true
def A74:=@of_decide_eq_false
def A0P:=@Nat.mul_one
def B3Q:=@run_loadCells_list
def A0u:=@List.getElem?_toArray
def I7:=@List.mem_of_getElem?
def A3r:=@Sem.run_pure
def T8:=@Option.getD_some
def B3:=@Bool.and_eq_true
def L7:=@Option.map_some
def A28:=@Int.toNat_of_nonneg
def R5:=@Ne.symm
def F6:=@List.nil_append
def Q9:=@congrArg
def B6O:=@HEq.rfl
def M9:=@List.take_take
def P2:=@Nat.min_eq_left
def A0K:=@List.drop_take
def G2:=@Nat.succ_mul
def D5:=@Nat.le_of_ble_eq_true
def A6R:=@List.map_nil
def A4c:=@List.ext_getElem
def A6S:=@Nat.mul_comm
def B4P:=@getElem!_pos
def A5e:=@Int.le_refl
def U7:=@List.length_replicate
def A3s:=@World.ownsRow_lit
def B0O:=@List.getElem_replicate
def T1:=@List.replicate_succ
def A81:=@List.flatten_cons
def U5:=@List.drop_zero
def F2:=@List.take_append_of_le_length
def E8:=@List.take_of_length_le
def A4d:=@List.drop_append
def I5:=@List.drop_of_length_le
def M7:=@Nat.add_sub_cancel_left
def B4Q:=@Nat.add_comm
def A0L:=@List.drop_left
def B0P:=@List.getElem_cons_succ
def A0e:=@Nat.beq_refl
def A5w:=@List.map_append
def B5m:=@Nat.mul_pos
def A9J:=@Nat.le_mul_of_pos_right
def N1:=@List.length_map
def U8:=@Nat.div_lt_iff_lt_mul
def B0Q:=@Nat.mod_lt
def A60:=@Nat.div_add_mod
def J8:=@List.getElem?_map
def I8:=@List.getElem_append_left
def J3:=@List.drop_append_of_le_length
def J6:=@List.getElem_append_right
def A3t:=@Nat.le_of_lt
def A01:=@List.ext_getElem?
def A1M:=@List.mem_of_mem_take
def R8:=@List.mem_of_mem_drop
def V4:=@List.length_set
def A42:=@List.getElem_set_self
def A61:=@List.getElem_set_ne
def H7:=@List.suffix_refl
def A9K:=@List.suffix_cons
def U6:=@List.suffix_append
def J1:=@Array.getElem?_toList
def B1s:=@List.range_eq_range'
def A0t:=@List.any_cons
def A5f:=@Bool.or_eq_false_iff
def I9:=@Bool.or_eq_true
def A24:=@List.any_eq_true
def G5:=@List.length_singleton
def A5g:=@Array.mem_toList_iff
def A0f:=@List.mem_filterMap
def A62:=@List.filterMap_cons
def A3J:=@List.append_cancel_left
def A43:=@Nat.le_div_iff_mul_le
def T9:=@Array.toList_inj
def A4f:=@Nat.lt_succ_self
def A0i:=@List.any_append
def B1t:=@List.getElem?_set_ne
def H5:=@Option.some.injEq
def A44:=@Array.getElem?_modify
def A9L:=@List.getElem?_cons_zero
def A5h:=@Nat.sub_mul
def A5i:=@List.mem_iff_getElem
def A45:=@List.mem_iff_getElem?
def A0v:=@List.singleton_append
def A3u:=@List.getElem_take
def A3v:=@List.getElem_drop
def A4g:=@block_lt_of_cell
def B0e:=@Option.some.inj
def B2o:=@Prod.mk.injEq
def E7:=@Int.toNat_natCast
def Q1:=@decide_eq_true_eq
def K7:=@List.getElem_mem
def A75:=@Int.natCast_nonneg
def A76:=@Bool.false_and
def A3K:=@decide_true
def A77:=@Bool.not_false
def A0j:=@List.length_zip
def Q2:=@List.take_succ_eq_append_getElem
def A0M:=@List.length_eq_zero_iff
def N0:=@Int.tdiv_eq_ediv_of_nonneg
def A0w:=@ByteArray.size_append
def A78:=@Nat.eq_zero_or_pos
def A7C:=@List.mem_take_iff_getElem
def A9N:=@IntKind.wrap_i64
def B1v:=@Nat.min_def
def B0f:=@List.take_left'
def Thawed(n:Nat)(fz:Nat×Nat):Prop:=fz=(0,0)\/fz=(n,n+1)
theorem Thawed.not{w:World}{g:Nat}{cur:Array Value}{t:TypeId}{fz:Nat×Nat}(hg:w.heap[g]? = some (.cells cur t fz))(hf:Thawed cur.size fz){i:Nat}(hi:i<cur.size):w.frozen? ⟨g,i,none⟩=false:=by
 rcases hf with rfl | rfl
 ·simp only [World.frozen?,hg,B0h,A9H];right;exact Nat.not_lt_zero _
 ·simp only [World.frozen?,hg,B0h,A9H];left;omega
def TS(size n:Nat)(fz:Nat×Nat):Prop:=Thawed n fz/\(fz=(0,0)\/size=1)
def owns(w:World)(base:Nat)(e:TypeId)(size:Nat)(v:Value)(n:Nat)(xs:List Value):Prop:=
 xs.length=n*size/\
 ((v=.slice none 0 0/\n=0)\/
  ∃ g cap cur fz,v=.slice (some ⟨g,0,none⟩) n cap/\base<=g/\w.heap[g]? = some (.cells cur e fz)/\TS size cur.size fz/\n<=cap/\cap<=maxLen/\cur.size=cap*size/\cur.toList.take (n*size)=xs)
section
variable {w:World} {base:Nat} {e:TypeId} {size:Nat} {v:Value} {n:Nat} {xs:List Value}
theorem A7E(h:w.ownsRow base e size v n xs):owns w base e size v n xs:=by
 refine ⟨h.1,?_⟩;rcases h.2 with hn | ⟨g,cap,cur,hv,hb,hg,rest⟩
 ·exact .inl hn
 ·exact .inr ⟨g,cap,cur,(0,0),hv,hb,hg,⟨.inl rfl,.inl rfl⟩,rest⟩
theorem A3M(w:World)(base:Nat)(e:TypeId)(size:Nat):owns w base e size (.slice none 0 0) 0 []:=⟨by simp,.inl ⟨rfl,rfl⟩⟩
theorem C8b(h:owns w base e size v n xs):∀ k,v.ownBlock=some k->base<=k/\k<w.heap.size:=by
 intro k hk;rcases h.2 with ⟨rfl,_⟩ | ⟨g,cap,cur,fz,rfl,hb,hg,_⟩
 ·simp [Value.ownBlock] at hk
 ·simp [Value.ownBlock] at hk;subst hk;exact ⟨hb,(A9.1 hg).1⟩
theorem S3(h:owns w base e size v n xs){g:Nat}(hg:v.ownBlock=some g):∀ j u,xs[j]? = some u->w.cell? ((⟨g,0,none⟩:Addr).add j)=some u:=by
 intro j u hu;rcases h.2 with ⟨rfl,_⟩ | ⟨g',cap,cur,fz,rfl,_,hgg,_,_,_,_,htake⟩
 ·simp [Value.ownBlock] at hg
 ·simp [Value.ownBlock] at hg;subst hg;have hadd:(⟨g',0,none⟩:Addr).add j=⟨g',j,none⟩:=by unfold Addr.add;split<;>simp_all
  rw [hadd,A1J w g' j cur e fz hgg];rw [<- htake,L3] at hu;split at hu
  ·simpa using hu
  ·cases hu
end
theorem A0Q(P:Program)(g o:Nat)(t:TypeId)(fz:Nat×Nat):∀ (vs:List Value) (i:Nat) (cur:Array Value) (w:World),w.heap[g]? = some (.cells cur t fz)->Thawed cur.size fz->o+i+vs.length<=cur.size->(∀ v∈vs,v.oneCell' = true)->
  (storeCells ⟨g,o,none⟩ vs i).run P w=.ok () (w.setRow g (cur.toList.take (o+i)++vs++cur.toList.drop (o+i+vs.length)).toArray)
 | [],i,cur,w,hg,_,_,_=>by
  simp only [storeCells,F4,I1,J0,M2,R6];rw [setRow_self w g cur t fz hg];rfl
 | v::rest,i,cur,w,hg,hfz,hl,h1=>by
  have hi:o+i<cur.size:=by simp at hl;omega
  have hadd:(⟨g,o,none⟩:Addr).add i=⟨g,o+i,none⟩:=by unfold Addr.add;split<;>simp_all
  have hcell:w.cell? ⟨g,o+i,none⟩=some cur[o+i]:=by simp [World.cell?,hg,hi]
  have hfro:w.frozen? ⟨g,o+i,none⟩=false:=Thawed.not hg hfz hi;have hst:(store ((⟨g,o,none⟩:Addr).add i) v).run P w=.ok () (w.setRow g (cur.setIfInBounds (o+i) v)):=by
   rw [hadd,run_store P w _ v _ (h1 v (by simp)),hcell];simp [hfro,B4O w g (o+i) cur t fz v hg]
  have ih:=A0Q P g o t fz rest (i+1) (cur.setIfInBounds (o+i) v) (w.setRow g (cur.setIfInBounds (o+i) v)) (O1 w g cur _ t _ hg) (by simpa using hfz) (by simp at hl ⊢;omega) (fun x hx=>h1 x (by simp [hx]));simp only [storeCells,C4,hst,H2,ih,A8j]
  congr 3
  have e:=list_seg_step cur.toList (o+i) v rest (by simp at hl ⊢;omega);simpa [A1K,L9] using e
section
variable {P:Program} (w:World)
theorem A1O(t ty e:TypeId)(i:TypeInfo)(ht:P.underlying t=some (.slice e))(hi:P.info? e=some i)
  (g sLen sCap:Nat) (cur:Array Value) (fz:Nat×Nat) (hg:w.heap[g]? = some (.cells cur e fz)) (hfz:Thawed cur.size fz)
  (a:Addr) (m c:Nat) (news:List Value) (hl:news.length=m*i.size) (hnews:∀ j u,news[j]? = some u->w.cell? (a.add j)=some u) (h1:∀ u∈news,u.oneCell' = true)
  (hroom:sLen+m<=sCap) (hfit:sLen*i.size+news.length<=cur.size) :
  (Builtin.append_ #[t,t] ty #[.slice (some ⟨g,0,none⟩) sLen sCap,.slice (some a) m c]).run P w =
   .ok (.slice (some ⟨g,0,none⟩) (sLen+m) sCap) (w.setRow g (cur.toList.take (sLen*i.size)++news++cur.toList.drop (sLen*i.size+news.length)).toArray):=by
 have hf:=B2U (P:=P) w i.size m a m c news hl hnews;have hst:=A0Q P g (sLen*i.size) e fz news 0 cur w hg hfz (by simpa using hfit) h1;simp only [J0] at hst;simp [Builtin.append_,F9 ht,sizeOf,typeInfo,hi,Builtin.lenOf,hroom,hf,R4,hst]
theorem B5n(base:Nat)(t ty e:TypeId)(i:TypeInfo)(z:Value)(size bytes:Nat)(ht:P.underlying t=some (.slice e))(hi:P.info? e=some i)(hz:i.zero=some z)
  (hsize:i.size=size) (hby:i.bytes=bytes) (hzs:z.cells.size=size) (hsz:0<size)
  (v:Value) (n:Nat) (xs:List Value) (hown:owns w base e size v n xs)
  (a:Addr) (m c:Nat) (news:List Value) (hl:news.length=m*size) (hnews:∀ j u,news[j]? = some u->w.cell? (a.add j)=some u) (h1:∀ u∈news,u.oneCell' = true)
  (h63:n+m<=maxLen) (hbytes:(n+m)*bytes<=140737488355328) (hbase:base<=w.heap.size) :
  ∃ v' w',(Builtin.append_ #[t,t] ty #[v,.slice (some a) m c]).run P w=.ok v' w'/\owns w' base e size v' (n+m) (xs++news)/\w.grownBy w' v.ownBlock/\
   (v' = .slice none 0 0↔v=.slice none 0 0/\m=0):=by
 rcases hown.2 with ⟨rfl,rfl⟩ | ⟨g,cap,cur,fz,rfl,hbg,hg,hfz,hnc,hcm,hcs,htake⟩
 ·have hx:xs = []:=F0 (by simpa using hown.1);subst hx;obtain ⟨v',w',h1,h2,h3,h4⟩:=run_append_own (P:=P) w base t ty e i z size bytes ht hi hz hsize hby hzs hsz _ 0 [] (World.ownsRow_nil w base e size) a m c news hl hnews h1 h63 hbytes hbase;exact ⟨v',w',h1,A7E h2,h3,h4⟩
 ·subst hsize;subst hby;have hlen:(xs++news).length=(n+m)*i.size:=by rw [A3,hown.1,hl,J7]
  have hsmall:n+m<=9223372036854775807:=by simp only [maxLen] at h63;omega
  by_cases hroom:n+m<=cap
  ·have hfit:n*i.size+news.length<=cur.size:=by rw [hl,hcs,<- J7];exact E1 _ hroom
   have hr:=A1O (P:=P) w t ty e i ht hi g n cap cur fz hg hfz.1 a m c news hl hnews h1 hroom hfit;have hsz2:(cur.toList.take (n*i.size)++news++cur.toList.drop (n*i.size+news.length)).toArray.size=cur.size:=by
    simp only [F7,A3,B2,C5,D4];omega
   refine ⟨_,_,hr,⟨hlen,.inr ⟨g,cap,_,fz,rfl,hbg,O1 w g cur _ e _ hg,by rw [hsz2];exact hfz,hroom,hcm,by rw [hsz2];exact hcs,?_⟩⟩,⟨rfl,rfl,rfl,by simp,fun k _ hk=>T3 w g k _ (fun e=>hk (by simp [Value.ownBlock,e]))⟩,by simp⟩;rw [htake,<- hlen];exact R7
  ·have holds:∀ j u,xs[j]? = some u->w.cell? ((⟨g,0,none⟩:Addr).add j)=some u:=S3 hown (g:=g) rfl;have hr:=B0c (P:=P) w t ty e i z ht hi hz ⟨g,0,none⟩ n cap xs hown.1 holds a m c news hl hnews (by omega) (by omega) (A3o (by omega) hbytes);have hge:=A1L w (n+m) cap e;have hcm':grownCap w (n+m) cap e<=maxLen:=R3 w (n+m) cap e h63;refine ⟨_,_,hr,A7E ⟨hlen,.inr ⟨w.heap.size,_,_,rfl,hbase,A0H w.drew _,hge,hcm',?_,?_⟩⟩,⟨rfl,rfl,rfl,by simp,fun k hk _=>heap_alloc_old w.drew _ k hk⟩,by simp⟩
   ·simp only [S2,F7,U4,hzs,hown.1,hl,<- J7]
    congr 1
    omega
   ·simp only [A0C,A7];rw [<- A7,<- hlen];exact R7
end
end Go.Proofs.YthnfghmjipikhaaGreatDoor.Ev
